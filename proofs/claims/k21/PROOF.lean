import PyProof.Rows.All
import Wide.All
import OpenK.AllK
import Wide.FinOn
import HandS.ForMost
import HandS.Exc
import HandS.ExcCtx
import HandS.HotCalls
import HandS.TryOnly
import HandS.CallSlots
import HandS.Deep
import KE.KDictKeyed
import KE.SortData
import HandS.TupAny
import HandS.SortInts
import HandS.Style
import HandS.WordsExc
import HandS.Ends
import HandS.Property
import HandS.MakeKwOnly
import HandS.Walk
import HandS.Conv
import PyProof.ReprRoads
import HandS.RaiseMore
import KE.GoesEnum
import KE.GoesMore
import HandS.SetFor
import HandS.Strs
import HandS.Zip
import HandS.SortKw
import HandS.Remove
import KE.KItemsList
import KE.KDictZip
import KE.GoesZip
import HandS.IsInst
import HandS.SortRule
import HandS.Text
import KE.KCallOwn
import KE.KDictSum
import KE.KDictDisplayH
import HandS.ExcOwn
import HandS.TryMany
import PyProof.EqAt
import PyProof.EqKinds
import PyProof.TupleCall
import Open.SpecLaws
import KE.OsGo
import PySem.Challenge.RW_soldages_k21_values_that_are_transfers
set_option Elab.async false
set_option linter.all false
set_option maxRecDepth 100000
set_option maxHeartbeats 4000000
/-! The value layer: data by value, ownership, slots. -/
namespace PV
open PySem PySem.Spec L2

/-- data by value -/
inductive D where
  | non | bl (b : Bool) | int (i : Int) | str (x : Str)
  | tup (xs : List D) | lst (xs : List D)
  | dK (ks : List Key) (xs : List D)
  /-- a dict whose keys are tuples of ints, texts, None and such tuples -/
  | dT (ks xs : List D)
  | ins (c : Nat) (xs : List D)
  /-- the script -/
  | scr (ns : List Int)
  /-- an empty tuple of the module -/
  | kt

/-- where the classes stand; the names of their attributes in order -/
structure Gx where
  K : PySem.W.Frag
  ca : Nat → Addr
  cn : Nat → List Str
  w : World

/-- the script: locked, or one of the module's own -/
def ScrAt (K : PySem.W.Frag) (H : Hp) (a : Addr) (ns : List Int) : Prop := (∃ o, H a = some (.frz o (.lst (ns.map V.int)))) ∨ SqL K (fun _ => none) a (ns.map V.int)
theorem ScrAt.sq {K : PySem.W.Frag} {H : Hp} {a : Addr} {ns : List Int} (h : ScrAt K H a ns) : SqL K H a (ns.map V.int) := by
  rcases h with ⟨o, h⟩ | (h | ⟨o, h⟩) | h
  · exact .inl (.inr ⟨o, h⟩)
  · cases h
  · cases h
  · exact .inr h
/-! data that are keys -/
mutual
def keyN : D → Option NestedKey
  | .non => some NestedKey.none
  | .int i => some (NestedKey.num i)
  | .str x => some (NestedKey.text x)
  | .tup xs => (keysN xs).map NestedKey.tup
  | .kt => some (NestedKey.tup [])
  | _ => none
def keysN : List D → Option (List NestedKey)
  | [] => some []
  | d :: ds => match keyN d, keysN ds with
    | some k, some ks => some (k :: ks)
    | _, _ => none
end
abbrev Ents := List (NestedKey × Addr × Value)
def entN (w : World) (x : NestedKey × Addr × Value) : DictEntry := ⟨x.1.hash w, .ref x.2.1, x.2.2⟩
/-- the dict at a has these entries -/
def dictAt (w : World) (a : Addr) (es : Ents) : Heap → Prop := fun h => ∃ o e ep, h.get? a = some o ∧ o.ExactDict ∧ o.data = .dict e ep ∧ e.toList = es.map (entN w) ∧ (es.map (·.1)).Nodup
/-- the entries are those keys, those values -/
structure DEnt (a : Addr) (ks : List D) (kv vs : List V) (es : Ents) : Prop where
  keys : keysN ks = some (es.map (·.1))
  kv : kv = es.map fun e => V.ref e.2.1
  vals : Vals vs (es.map (·.2.2))
  size : es.length ≤ sizeLine
  deep : ∀ e ∈ es, e.1.depth ≤ 8
  sys : (a == sysModules) = false
mutual
/-- v is d in the heap H; the addresses that matter satisfy P -/
def Rep (G : Gx) (H : Hp) (P : Addr → Prop) : D → V → Prop
  | .non, v => v = .non
  | .bl b, v => v = .bl b
  | .int i, v => v = .int i
  | .str x, v => v = .str x
  | .tup xs, v => ∃ a vs, v = .ref a ∧ H a = some (.tup vs) ∧ Reps G H P xs vs
  | .lst xs, v => ∃ a vs, v = .ref a ∧ P a ∧ H a = some (.lst vs) ∧ Reps G H P xs vs
  | .dK ks xs, v => ∃ a vs, v = .ref a ∧ P a ∧ H a = some (.dK (ks.zip vs)) ∧ ks.length = vs.length ∧ Reps G H P xs vs
  | .dT ks xs, v => ∃ a kv vs es, v = .ref a ∧ P a ∧ H a = some (.ext (dictAt G.w a es)) ∧ DEnt a ks kv vs es ∧ Reps G H P ks kv ∧ Reps G H P xs vs
  | .ins c xs, v => ∃ a dx vs, v = .ref a ∧ P a ∧ H a = some (.ins (G.ca c) dx ((G.cn c).zip vs)) ∧ vs.length ≤ (G.cn c).length ∧ Reps G H P xs vs
  | .scr ns, v => ∃ a, v = .ref a ∧ ScrAt G.K H a ns
  | .kt, v => ∃ a, v = .ref a ∧ SqT G.K (fun _ => none) a []
def Reps (G : Gx) (H : Hp) (P : Addr → Prop) : List D → List V → Prop
  | [], vs => vs = []
  | d :: ds, vs => ∃ v r, vs = v :: r ∧ Rep G H P d v ∧ Reps G H P ds r
end

/-- tuples never change, nor do locked things -/
def Tk (H H' : Hp) : Prop := (∀ a vs, H a = some (.tup vs) → H' a = some (.tup vs)) ∧ ∀ a o u, H a = some (.frz o (.lst u)) → H' a = some (.frz o (.lst u))
theorem Tk.refl (H : Hp) : Tk H H := ⟨fun _ _ h => h, fun _ _ _ h => h⟩
theorem Tk.trans {H H1 H2 : Hp} (a : Tk H H1) (b : Tk H1 H2) : Tk H H2 := ⟨fun c vs h => b.1 c vs (a.1 c vs h), fun c o u h => b.2 c o u (a.2 c o u h)⟩
mutual
theorem Rep.keep {G : Gx} {H H' : Hp} {P P' : Addr → Prop} (hP : ∀ a, P a → P' a) (hk : ∀ a o, P a → H a = some o → H' a = some o) (ht : Tk H H') : ∀ (d : D) (v : V), Rep G H P d v → Rep G H' P' d v
  | .non, v, h => by simp only [Rep] at h ⊢; exact h
  | .bl b, v, h => by simp only [Rep] at h ⊢; exact h
  | .int i, v, h => by simp only [Rep] at h ⊢; exact h
  | .str x, v, h => by simp only [Rep] at h ⊢; exact h
  | .tup xs, v, h => by
    simp only [Rep] at h ⊢
    obtain ⟨a, vs, e, h1, h2⟩ := h
    exact ⟨a, vs, e, ht.1 _ _ h1, Reps.keep hP hk ht xs vs h2⟩
  | .lst xs, v, h => by
    simp only [Rep] at h ⊢
    obtain ⟨a, vs, e, p, h1, h2⟩ := h
    exact ⟨a, vs, e, hP _ p, hk _ _ p h1, Reps.keep hP hk ht xs vs h2⟩
  | .dK ks xs, v, h => by
    simp only [Rep] at h ⊢
    obtain ⟨a, vs, e, p, h1, hl, h2⟩ := h
    exact ⟨a, vs, e, hP _ p, hk _ _ p h1, hl, Reps.keep hP hk ht xs vs h2⟩
  | .dT ks xs, v, h => by
    simp only [Rep] at h ⊢
    obtain ⟨a, kv, vs, es, e, p, h1, hl, h2, h3⟩ := h
    exact ⟨a, kv, vs, es, e, hP _ p, hk _ _ p h1, hl, Reps.keep hP hk ht ks kv h2, Reps.keep hP hk ht xs vs h3⟩
  | .ins c xs, v, h => by
    simp only [Rep] at h ⊢
    obtain ⟨a, dx, vs, e, p, h1, hl, h2⟩ := h
    exact ⟨a, dx, vs, e, hP _ p, hk _ _ p h1, hl, Reps.keep hP hk ht xs vs h2⟩
  | .scr ns, v, h => by
    simp only [Rep] at h ⊢
    obtain ⟨a, e, h⟩ := h
    exact ⟨a, e, h.elim (fun ⟨o, z⟩ => .inl ⟨o, ht.2 _ _ _ z⟩) .inr⟩
  | .kt, v, h => by simp only [Rep] at h ⊢; exact h
theorem Reps.keep {G : Gx} {H H' : Hp} {P P' : Addr → Prop} (hP : ∀ a, P a → P' a) (hk : ∀ a o, P a → H a = some o → H' a = some o) (ht : Tk H H') : ∀ (ds : List D) (vs : List V), Reps G H P ds vs → Reps G H' P' ds vs
  | [], vs, h => by simp only [Reps] at h ⊢; exact h
  | d :: ds, vs, h => by
    simp only [Reps] at h ⊢
    obtain ⟨v, r, e, h1, h2⟩ := h
    exact ⟨v, r, e, Rep.keep hP hk ht d v h1, Reps.keep hP hk ht ds r h2⟩
end

/-- no list, dict or instance in it -/
def flat : D → Bool
  | .tup xs => flats xs
  | .lst _ => false
  | .dK _ _ => false
  | .dT _ _ => false
  | .ins _ _ => false
  | _ => true
where flats : List D → Bool
  | [] => true
  | d :: ds => flat d && flats ds
theorem flats_all : ∀ ds : List D, flat.flats ds = ds.all flat
  | [] => by simp [flat.flats]
  | d :: ds => by simp [flat.flats, flats_all ds]

mutual
theorem Rep.flat {G : Gx} {H : Hp} {P P' : Addr → Prop} : ∀ (d : D) (v : V), PV.flat d = true → Rep G H P d v → Rep G H P' d v
  | .non, v, _, h => by simp only [Rep] at h ⊢; exact h
  | .bl b, v, _, h => by simp only [Rep] at h ⊢; exact h
  | .int i, v, _, h => by simp only [Rep] at h ⊢; exact h
  | .str x, v, _, h => by simp only [Rep] at h ⊢; exact h
  | .tup xs, v, f, h => by
    simp only [Rep] at h ⊢
    obtain ⟨a, vs, e, h1, h2⟩ := h
    exact ⟨a, vs, e, h1, Reps.flat xs vs (by simpa [PV.flat] using f) h2⟩
  | .lst xs, v, f, h => by simp [PV.flat] at f
  | .dK ks xs, v, f, h => by simp [PV.flat] at f
  | .dT ks xs, v, f, h => by simp [PV.flat] at f
  | .ins c xs, v, f, h => by simp [PV.flat] at f
  | .scr ns, v, _, h => by simp only [Rep] at h ⊢; exact h
  | .kt, v, _, h => by simp only [Rep] at h ⊢; exact h
theorem Reps.flat {G : Gx} {H : Hp} {P P' : Addr → Prop} : ∀ (ds : List D) (vs : List V), PV.flat.flats ds = true → Reps G H P ds vs → Reps G H P' ds vs
  | [], vs, _, h => by simp only [Reps] at h ⊢; exact h
  | d :: ds, vs, f, h => by
    simp only [Reps] at h ⊢
    obtain ⟨v, r, e, h1, h2⟩ := h
    have f' : PV.flat d = true ∧ PV.flat.flats ds = true := by simpa [PV.flat.flats] using f
    exact ⟨v, r, e, Rep.flat d v f'.1 h1, Reps.flat ds r f'.2 h2⟩
end
end PV

namespace PV
open PySem PySem.Spec L2

/-- shared for good, lent, owned (its items shared for good) -/
inductive Kd where
  | F | B | O
  deriving DecidableEq

/-- what a name or an expression holds -/
inductive Tm where
  | v (k : Kd) (d : D)
  | tp (ts : List Tm) | ls (ts : List Tm)
  | ob (c : Nat) (ts : List Tm)
  | loc (i : Nat)

def RepO (G : Gx) (H : Hp) (fz : Addr → Prop) : D → V → List Addr → Prop
  | .lst xs, v, os => ∃ a vs, v = .ref a ∧ os = [a] ∧ H a = some (.lst vs) ∧ Reps G H fz xs vs
  | .dK ks xs, v, os => ∃ a vs, v = .ref a ∧ os = [a] ∧ H a = some (.dK (ks.zip vs)) ∧ ks.length = vs.length ∧ Reps G H fz xs vs
  | .dT ks xs, v, os => ∃ a kv vs es, v = .ref a ∧ os = [a] ∧ H a = some (.ext (dictAt G.w a es)) ∧ DEnt a ks kv vs es ∧ Reps G H fz ks kv ∧ Reps G H fz xs vs
  | .ins c xs, v, os => ∃ a dx vs, v = .ref a ∧ os = [a] ∧ H a = some (.ins (G.ca c) dx ((G.cn c).zip vs)) ∧ vs.length ≤ (G.cn c).length ∧ Reps G H fz xs vs
  | d, v, os => os = [] ∧ Rep G H fz d v

mutual
def TmR (G : Gx) (H : Hp) (fz pr : Addr → Prop) : Tm → V → List Addr → Prop
  | .v .F d, v, os => os = [] ∧ Rep G H fz d v
  | .v .B d, v, os => os = [] ∧ Rep G H (fun a => fz a ∨ pr a) d v
  | .v .O d, v, os => RepO G H fz d v os
  | .tp ts, v, os => ∃ a vs, v = .ref a ∧ H a = some (.tup vs) ∧ TmRs G H fz pr ts vs os
  | .ls ts, v, os => ∃ a vs o, v = .ref a ∧ os = a :: o ∧ H a = some (.lst vs) ∧ TmRs G H fz pr ts vs o
  | .ob c ts, v, os => ∃ a dx vs o, v = .ref a ∧ os = a :: o ∧ H a = some (.ins (G.ca c) dx ((G.cn c).zip vs)) ∧ vs.length ≤ (G.cn c).length ∧ TmRs G H fz pr ts vs o
  | .loc _, _, _ => False
def TmRs (G : Gx) (H : Hp) (fz pr : Addr → Prop) : List Tm → List V → List Addr → Prop
  | [], vs, os => vs = [] ∧ os = []
  | t :: ts, vs, os => ∃ v r o1 o2, vs = v :: r ∧ os = o1 ++ o2 ∧ TmR G H fz pr t v o1 ∧ TmRs G H fz pr ts r o2
end

/-- what is owned stands in the heap, and is no tuple and nothing locked -/
def Own (H : Hp) (a : Addr) : Prop := (∃ xs, H a = some (.lst xs)) ∨ (∃ kvs, H a = some (.dK kvs)) ∨ (∃ φ, H a = some (.ext φ)) ∨ ∃ C dx fs, H a = some (.ins C dx fs)
theorem Own.some {H : Hp} {a : Addr} (h : Own H a) : ∃ o, H a = some o := by
  rcases h with ⟨_, h⟩ | ⟨_, h⟩ | ⟨_, h⟩ | ⟨_, _, _, h⟩ <;> exact ⟨_, h⟩
theorem Own.ne {H : Hp} {a : Addr} (h : Own H a) : H a ≠ none := by
  obtain ⟨o, e⟩ := h.some
  rw [e]; simp
theorem RepO.own {G : Gx} {H : Hp} {fz : Addr → Prop} {d : D} {v : V} {os : List Addr} (h : RepO G H fz d v os) : ∀ a ∈ os, Own H a := by
  cases d <;> simp only [RepO] at h
  case lst xs => obtain ⟨a, vs, rfl, rfl, h1, _⟩ := h; intro b hb; rw [List.mem_singleton] at hb; subst hb; exact .inl ⟨_, h1⟩
  case dK ks xs => obtain ⟨a, vs, rfl, rfl, h1, _⟩ := h; intro b hb; rw [List.mem_singleton] at hb; subst hb; exact .inr (.inl ⟨_, h1⟩)
  case dT ks xs => obtain ⟨a, kv, vs, es, rfl, rfl, h1, _⟩ := h; intro b hb; rw [List.mem_singleton] at hb; subst hb; exact .inr (.inr (.inl ⟨_, h1⟩))
  case ins c xs => obtain ⟨a, dx, vs, rfl, rfl, h1, _⟩ := h; intro b hb; rw [List.mem_singleton] at hb; subst hb; exact .inr (.inr (.inr ⟨_, _, _, h1⟩))
  all_goals (obtain ⟨rfl, _⟩ := h; intro b hb; cases hb)
mutual
theorem TmR.own {G : Gx} {H : Hp} {fz pr : Addr → Prop} : ∀ (t : Tm) (v : V) (os : List Addr), TmR G H fz pr t v os → ∀ a ∈ os, Own H a
  | .v .F d, v, os, h => by simp only [TmR] at h; obtain ⟨rfl, _⟩ := h; intro a ha; cases ha
  | .v .B d, v, os, h => by simp only [TmR] at h; obtain ⟨rfl, _⟩ := h; intro a ha; cases ha
  | .v .O d, v, os, h => by simp only [TmR] at h; exact h.own
  | .tp ts, v, os, h => by simp only [TmR] at h; obtain ⟨a, vs, rfl, _, h⟩ := h; exact TmRs.own ts vs os h
  | .ls ts, v, os, h => by
    simp only [TmR] at h
    obtain ⟨a, vs, o, rfl, rfl, h1, h⟩ := h
    intro b hb
    rcases List.mem_cons.mp hb with rfl | hb
    · exact .inl ⟨_, h1⟩
    · exact TmRs.own ts vs o h b hb
  | .ob c ts, v, os, h => by
    simp only [TmR] at h
    obtain ⟨a, dx, vs, o, rfl, rfl, h1, _, h⟩ := h
    intro b hb
    rcases List.mem_cons.mp hb with rfl | hb
    · exact .inr (.inr (.inr ⟨_, _, _, h1⟩))
    · exact TmRs.own ts vs o h b hb
  | .loc i, v, os, h => by simp only [TmR] at h
theorem TmRs.own {G : Gx} {H : Hp} {fz pr : Addr → Prop} : ∀ (ts : List Tm) (vs : List V) (os : List Addr), TmRs G H fz pr ts vs os → ∀ a ∈ os, Own H a
  | [], vs, os, h => by simp only [TmRs] at h; obtain ⟨_, rfl⟩ := h; intro a ha; cases ha
  | t :: ts, vs, os, h => by
    simp only [TmRs] at h
    obtain ⟨v, r, o1, o2, rfl, rfl, h1, h2⟩ := h
    intro a ha
    rcases List.mem_append.mp ha with ha | ha
    · exact TmR.own t v o1 h1 a ha
    · exact TmRs.own ts r o2 h2 a ha
end

theorem RepO.keep {G : Gx} {H H' : Hp} {fz fz' : Addr → Prop} {d : D} {v : V} {os : List Addr} (hf : ∀ a, fz a → fz' a) (hk : ∀ a o, (a ∈ os ∨ fz a) → H a = some o → H' a = some o) (ht : Tk H H') (h : RepO G H fz d v os) : RepO G H' fz' d v os := by
  have hk2 : ∀ a o, fz a → H a = some o → H' a = some o := fun a o p => hk a o (.inr p)
  cases d <;> simp only [RepO] at h ⊢
  case lst xs => obtain ⟨a, vs, rfl, rfl, h1, h2⟩ := h; exact ⟨a, vs, rfl, rfl, hk _ _ (.inl (by simp)) h1, Reps.keep hf hk2 ht _ _ h2⟩
  case dK ks xs => obtain ⟨a, vs, rfl, rfl, h1, hl, h2⟩ := h; exact ⟨a, vs, rfl, rfl, hk _ _ (.inl (by simp)) h1, hl, Reps.keep hf hk2 ht _ _ h2⟩
  case dT ks xs => obtain ⟨a, kv, vs, es, rfl, rfl, h1, hl, h2, h3⟩ := h; exact ⟨a, kv, vs, es, rfl, rfl, hk _ _ (.inl (by simp)) h1, hl, Reps.keep hf hk2 ht _ _ h2, Reps.keep hf hk2 ht _ _ h3⟩
  case ins c xs => obtain ⟨a, dx, vs, rfl, rfl, h1, hl, h2⟩ := h; exact ⟨a, dx, vs, rfl, rfl, hk _ _ (.inl (by simp)) h1, hl, Reps.keep hf hk2 ht _ _ h2⟩
  all_goals exact ⟨h.1, Rep.keep hf hk2 ht _ _ h.2⟩
mutual
theorem TmR.keep {G : Gx} {H H' : Hp} {fz fz' pr pr' : Addr → Prop} (hf : ∀ a, fz a → fz' a) (hp : ∀ a, pr a → fz' a ∨ pr' a) (ht : Tk H H') : ∀ (t : Tm) (v : V) (os : List Addr), (∀ a o, (a ∈ os ∨ fz a ∨ pr a) → H a = some o → H' a = some o) →
    TmR G H fz pr t v os → TmR G H' fz' pr' t v os
  | .v .F d, v, os, hk, h => by simp only [TmR] at h ⊢; exact ⟨h.1, Rep.keep hf (fun a o p => hk a o (.inr (.inl p))) ht _ _ h.2⟩
  | .v .B d, v, os, hk, h => by
    simp only [TmR] at h ⊢
    exact ⟨h.1, Rep.keep (fun a p => p.elim (fun z => .inl (hf a z)) (hp a)) (fun a o p => hk a o (.inr p)) ht _ _ h.2⟩
  | .v .O d, v, os, hk, h => by simp only [TmR] at h ⊢; exact h.keep hf (fun a o p => hk a o (p.elim .inl fun z => .inr (.inl z))) ht
  | .tp ts, v, os, hk, h => by
    simp only [TmR] at h ⊢
    obtain ⟨a, vs, e, h1, h2⟩ := h
    exact ⟨a, vs, e, ht.1 _ _ h1, TmRs.keep hf hp ht ts vs os hk h2⟩
  | .ls ts, v, os, hk, h => by
    simp only [TmR] at h ⊢
    obtain ⟨a, vs, o, rfl, rfl, h1, h2⟩ := h
    exact ⟨a, vs, o, rfl, rfl, hk _ _ (.inl (by simp)) h1, TmRs.keep hf hp ht ts vs o (fun b u p => hk b u (p.elim (fun z => .inl (List.mem_cons_of_mem _ z)) .inr)) h2⟩
  | .ob c ts, v, os, hk, h => by
    simp only [TmR] at h ⊢
    obtain ⟨a, dx, vs, o, rfl, rfl, h1, hl, h2⟩ := h
    exact ⟨a, dx, vs, o, rfl, rfl, hk _ _ (.inl (by simp)) h1, hl, TmRs.keep hf hp ht ts vs o (fun b u p => hk b u (p.elim (fun z => .inl (List.mem_cons_of_mem _ z)) .inr)) h2⟩
  | .loc i, v, os, hk, h => by simp only [TmR] at h
theorem TmRs.keep {G : Gx} {H H' : Hp} {fz fz' pr pr' : Addr → Prop} (hf : ∀ a, fz a → fz' a) (hp : ∀ a, pr a → fz' a ∨ pr' a) (ht : Tk H H') : ∀ (ts : List Tm) (vs : List V) (os : List Addr), (∀ a o, (a ∈ os ∨ fz a ∨ pr a) → H a = some o → H' a = some o) →
    TmRs G H fz pr ts vs os → TmRs G H' fz' pr' ts vs os
  | [], vs, os, hk, h => by simp only [TmRs] at h ⊢; exact h
  | t :: ts, vs, os, hk, h => by
    simp only [TmRs] at h ⊢
    obtain ⟨v, r, o1, o2, rfl, rfl, h1, h2⟩ := h
    exact ⟨v, r, o1, o2, rfl, rfl, TmR.keep hf hp ht t v o1 (fun a o p => hk a o (p.elim (fun z => .inl (List.mem_append_left _ z)) .inr)) h1, TmRs.keep hf hp ht ts r o2 (fun a o p => hk a o (p.elim (fun z => .inl (List.mem_append_right _ z)) .inr)) h2⟩
end

/-- slots by value -/
abbrev Ss := List (Option Tm)
def Sl (G : Gx) (H : Hp) (fz pr : Addr → Prop) : Ss → St → List Addr → Prop
  | [], σ, os => σ = [] ∧ os = []
  | none :: ρ, σ, os => ∃ x r, σ = x :: r ∧ Sl G H fz pr ρ r os
  | some t :: ρ, σ, os => ∃ v r o1 o2, σ = some v :: r ∧ os = o1 ++ o2 ∧ TmR G H fz pr t v o1 ∧ Sl G H fz pr ρ r o2

theorem Sl.own {G : Gx} {H : Hp} {fz pr : Addr → Prop} : ∀ {ρ : Ss} {σ : St} {os : List Addr}, Sl G H fz pr ρ σ os → ∀ a ∈ os, Own H a
  | [], σ, os, h => by simp only [Sl] at h; obtain ⟨_, rfl⟩ := h; intro a ha; cases ha
  | none :: ρ, σ, os, h => by simp only [Sl] at h; obtain ⟨x, r, _, h⟩ := h; exact Sl.own h
  | some t :: ρ, σ, os, h => by
    simp only [Sl] at h
    obtain ⟨v, r, o1, o2, rfl, rfl, h1, h2⟩ := h
    intro a ha
    rcases List.mem_append.mp ha with ha | ha
    · exact TmR.own _ _ _ h1 a ha
    · exact Sl.own h2 a ha
theorem Sl.keep {G : Gx} {H H' : Hp} {fz fz' pr pr' : Addr → Prop} (hf : ∀ a, fz a → fz' a) (hp : ∀ a, pr a → fz' a ∨ pr' a) (ht : Tk H H') : ∀ {ρ : Ss} {σ : St} {os : List Addr}, (∀ a o, (a ∈ os ∨ fz a ∨ pr a) → H a = some o → H' a = some o) →
    Sl G H fz pr ρ σ os → Sl G H' fz' pr' ρ σ os
  | [], σ, os, hk, h => by simp only [Sl] at h ⊢; exact h
  | none :: ρ, σ, os, hk, h => by
    simp only [Sl] at h ⊢
    obtain ⟨x, r, e, h⟩ := h
    exact ⟨x, r, e, Sl.keep hf hp ht hk h⟩
  | some t :: ρ, σ, os, hk, h => by
    simp only [Sl] at h ⊢
    obtain ⟨v, r, o1, o2, rfl, rfl, h1, h2⟩ := h
    exact ⟨v, r, o1, o2, rfl, rfl, TmR.keep hf hp ht _ _ _ (fun a o p => hk a o (p.elim (fun z => .inl (List.mem_append_left _ z)) .inr)) h1, Sl.keep hf hp ht (fun a o p => hk a o (p.elim (fun z => .inl (List.mem_append_right _ z)) .inr)) h2⟩
theorem Sl.len {G : Gx} {H : Hp} {fz pr : Addr → Prop} : ∀ {ρ : Ss} {σ : St} {os : List Addr}, Sl G H fz pr ρ σ os → ρ.length = σ.length
  | [], σ, os, h => by simp only [Sl] at h; rw [h.1]; rfl
  | none :: ρ, σ, os, h => by simp only [Sl] at h; obtain ⟨x, r, rfl, h⟩ := h; simp [Sl.len h]
  | some t :: ρ, σ, os, h => by simp only [Sl] at h; obtain ⟨v, r, o1, o2, rfl, rfl, h1, h2⟩ := h; simp [Sl.len h2]
/-- the i-th slot by itself -/
theorem Sl.get {G : Gx} {H : Hp} {fz pr : Addr → Prop} : ∀ {ρ : Ss} {σ : St} {os : List Addr} {i : Nat} {t : Tm}, Sl G H fz pr ρ σ os → ρ[i]? = some (some t) →
    ∃ v o1 o2 o3, σ[i]? = some (some v) ∧ os = o1 ++ (o2 ++ o3) ∧ TmR G H fz pr t v o2 ∧
      (∀ t' H' fz' o2', TmR G H' fz' pr t' v o2' → (∀ a o, (a ∈ o1 ∨ a ∈ o3 ∨ fz a ∨ pr a) → H a = some o → H' a = some o) → (∀ a, fz a → fz' a) → Tk H H' → Sl G H' fz' pr (ρ.set i (some t')) σ (o1 ++ (o2' ++ o3)))
  | [], σ, os, i, t, h, e => by simp at e
  | none :: ρ, σ, os, 0, t, h, e => by simp at e
  | none :: ρ, σ, os, i + 1, t, h, e => by
    simp only [Sl] at h
    obtain ⟨x, r, rfl, h⟩ := h
    obtain ⟨v, o1, o2, o3, e1, e2, h1, h2⟩ := Sl.get (i := i) (t := t) h (by simpa using e)
    refine ⟨v, o1, o2, o3, by simpa using e1, e2, h1, fun t' H' fz' o2' q hk hf ht => ?_⟩
    simp only [List.set_cons_succ, Sl]
    exact ⟨x, r, rfl, h2 t' H' fz' o2' q hk hf ht⟩
  | some t0 :: ρ, σ, os, 0, t, h, e => by
    simp only [Sl] at h
    obtain ⟨v, r, o1, o2, rfl, rfl, h1, h2⟩ := h
    have e' : t0 = t := by simpa using e
    subst e'
    refine ⟨v, [], o1, o2, rfl, rfl, h1, fun t' H' fz' o2' q hk hf ht => ?_⟩
    simp only [List.set_cons_zero, Sl, List.nil_append]
    exact ⟨v, r, o2', o2, rfl, rfl, q, Sl.keep hf (fun a p => .inr p) ht (fun a o p => hk a o (p.elim (fun z => .inr (.inl z)) fun z => .inr (.inr z))) h2⟩
  | some t0 :: ρ, σ, os, i + 1, t, h, e => by
    simp only [Sl] at h
    obtain ⟨v0, r, p1, p2, rfl, rfl, h0, h⟩ := h
    obtain ⟨v, o1, o2, o3, e1, e2, h1, h2⟩ := Sl.get (i := i) (t := t) h (by simpa using e)
    subst e2
    refine ⟨v, p1 ++ o1, o2, o3, by simpa using e1, by simp, h1, fun t' H' fz' o2' q hk hf ht => ?_⟩
    simp only [List.set_cons_succ, Sl]
    refine ⟨v0, r, p1, o1 ++ (o2' ++ o3), rfl, by simp, ?_, ?_⟩
    · exact TmR.keep hf (fun a p => .inr p) ht _ _ _ (fun a o p => hk a o (p.elim (fun z => .inl (List.mem_append_left _ z)) fun z => .inr (.inr z))) h0
    · exact h2 t' H' fz' o2' q (fun a o p => hk a o (p.elim (fun z => .inl (List.mem_append_right _ z)) .inr)) hf ht
/-- the i-th slot is emptied -/
theorem Sl.drop {G : Gx} {H : Hp} {fz pr : Addr → Prop} : ∀ {ρ : Ss} {σ : St} {os : List Addr} {i : Nat} {t : Tm}, Sl G H fz pr ρ σ os → ρ[i]? = some (some t) →
    ∃ v o1 o2 o3, σ[i]? = some (some v) ∧ os = o1 ++ (o2 ++ o3) ∧ TmR G H fz pr t v o2 ∧ Sl G H fz pr (ρ.set i none) σ (o1 ++ o3)
  | [], σ, os, i, t, h, e => by simp at e
  | none :: ρ, σ, os, 0, t, h, e => by simp at e
  | none :: ρ, σ, os, i + 1, t, h, e => by
    simp only [Sl] at h
    obtain ⟨x, r, rfl, h⟩ := h
    obtain ⟨v, o1, o2, o3, e1, e2, h1, h2⟩ := Sl.drop (i := i) (t := t) h (by simpa using e)
    refine ⟨v, o1, o2, o3, by simpa using e1, e2, h1, ?_⟩
    simp only [List.set_cons_succ, Sl]
    exact ⟨x, r, rfl, h2⟩
  | some t0 :: ρ, σ, os, 0, t, h, e => by
    simp only [Sl] at h
    obtain ⟨v, r, o1, o2, rfl, rfl, h1, h2⟩ := h
    have e' : t0 = t := by simpa using e
    subst e'
    refine ⟨v, [], o1, o2, rfl, rfl, h1, ?_⟩
    simp only [List.set_cons_zero, Sl, List.nil_append]
    exact ⟨_, r, rfl, h2⟩
  | some t0 :: ρ, σ, os, i + 1, t, h, e => by
    simp only [Sl] at h
    obtain ⟨v0, r, p1, p2, rfl, rfl, h0, h⟩ := h
    obtain ⟨v, o1, o2, o3, e1, e2, h1, h2⟩ := Sl.drop (i := i) (t := t) h (by simpa using e)
    subst e2
    refine ⟨v, p1 ++ o1, o2, o3, by simpa using e1, by simp, h1, ?_⟩
    simp only [List.set_cons_succ, Sl]
    exact ⟨v0, r, p1, o1 ++ o3, rfl, by simp, h0, h2⟩
/-- a slot is stored -/
theorem Sl.put {G : Gx} {H : Hp} {fz pr : Addr → Prop} {t : Tm} {v : V} {ot : List Addr} (ht : TmR G H fz pr t v ot) : ∀ {ρ : Ss} {σ : St} {os : List Addr} {i : Nat}, Sl G H fz pr ρ σ os → i < ρ.length →
    ∃ o1 o2 o3, os = o1 ++ (o2 ++ o3) ∧ Sl G H fz pr (ρ.set i (some t)) (σ.set i (some v)) (o1 ++ (ot ++ o3))
  | [], σ, os, i, h, e => absurd e (by simp)
  | none :: ρ, σ, os, 0, h, e => by
    simp only [Sl] at h
    obtain ⟨x, r, rfl, h⟩ := h
    exact ⟨[], [], os, rfl, by simp only [List.set_cons_zero, Sl, List.nil_append]; exact ⟨v, r, ot, os, rfl, rfl, ht, h⟩⟩
  | none :: ρ, σ, os, i + 1, h, e => by
    simp only [Sl] at h
    obtain ⟨x, r, rfl, h⟩ := h
    obtain ⟨o1, o2, o3, e1, h1⟩ := Sl.put ht (i := i) h (by simpa using e)
    exact ⟨o1, o2, o3, e1, by simp only [List.set_cons_succ, Sl]; exact ⟨x, _, rfl, h1⟩⟩
  | some t0 :: ρ, σ, os, 0, h, e => by
    simp only [Sl] at h
    obtain ⟨v0, r, o1, o2, rfl, rfl, h1, h2⟩ := h
    exact ⟨[], o1, o2, rfl, by simp only [List.set_cons_zero, Sl, List.nil_append]; exact ⟨v, r, ot, o2, rfl, rfl, ht, h2⟩⟩
  | some t0 :: ρ, σ, os, i + 1, h, e => by
    simp only [Sl] at h
    obtain ⟨v0, r, p1, p2, rfl, rfl, h0, h⟩ := h
    obtain ⟨o1, o2, o3, e1, h1⟩ := Sl.put ht (i := i) h (by simpa using e)
    subst e1
    refine ⟨p1 ++ o1, o2, o3, by simp, ?_⟩
    simp only [List.set_cons_succ, Sl]
    exact ⟨v0, _, p1, o1 ++ (ot ++ o3), rfl, by simp, h0, h1⟩
end PV

namespace PV
open PySem PySem.Spec L2

/-- a state by value: the heap, what is shared for good, what the slots own, the slots -/
structure Sx where
  H : Hp
  fz : Addr → Prop
  os : List Addr
  ρ : Ss
structure SR (G : Gx) (pr : Addr → Prop) (io : List (Nat × V)) (σ : L2.St) (s : Sx) : Prop where
  sl : Sl G s.H s.fz pr s.ρ σ s.os
  nd : s.os.Nodup
  sep : ∀ a ∈ s.os, ¬ s.fz a ∧ ¬ pr a
  dom : ∀ a, (s.fz a ∨ pr a) → s.H a ≠ none
  iov : ∀ p ∈ io, σ[p.1]? = some (some p.2)
structure Ext (s s' : Sx) : Prop where
  keep : ∀ a o, s.H a = some o → a ∉ s.os → s'.H a = some o
  dom : ∀ a, s.H a ≠ none → s'.H a ≠ none
  tk : Tk s.H s'.H
  fz : ∀ a, s.fz a → s'.fz a
  fzo : ∀ a, s'.fz a → s.fz a ∨ a ∈ s.os ∨ s.H a = none
  oso : ∀ a ∈ s'.os, a ∈ s.os ∨ s.H a = none
theorem Ext.refl (s : Sx) : Ext s s := ⟨fun _ _ h _ => h, fun _ h => h, Tk.refl _, fun _ h => h, fun _ h => .inl h, fun _ h => .inl h⟩
theorem none_of_ne {α : Type} {o : Option α} (h : ¬ o ≠ none) : o = none := by
  cases o with
  | none => rfl
  | some _ => exact absurd (by simp) h
theorem Ext.back {s s' : Sx} (e : Ext s s') {a : Addr} (h : s'.H a = none) : s.H a = none := none_of_ne fun z => e.dom a z h
theorem Ext.trans {s s1 s2 : Sx} (a : Ext s s1) (b : Ext s1 s2) : Ext s s2 where
  keep := fun c o h n => b.keep c o (a.keep c o h n) fun z => (a.oso c z).elim n fun y => by rw [h] at y; cases y
  dom := fun c h => b.dom c (a.dom c h)
  tk := a.tk.trans b.tk
  fz := fun c h => b.fz c (a.fz c h)
  fzo := fun c h => by
    rcases b.fzo c h with h | h | h
    · exact a.fzo c h
    · exact .inr (a.oso c h)
    · exact .inr (.inr (a.back h))
  oso := fun c h => by
    rcases b.oso c h with h | h
    · exact a.oso c h
    · exact .inr (a.back h)

/-- what a value in flight is -/
def TmT (G : Gx) (pr : Addr → Prop) (σ : L2.St) (s : Sx) (t : Tm) (v : V) (ot : List Addr) : Prop :=
  match t with
  | .loc i => ot = [] ∧ σ[i]? = some (some v)
  | t => TmR G s.H s.fz pr t v ot
structure Tp (G : Gx) (pr : Addr → Prop) (σ : L2.St) (s : Sx) (t : Tm) (v : V) (ot : List Addr) : Prop where
  rel : TmT G pr σ s t v ot
  nd : ot.Nodup
  sep : ∀ a ∈ ot, ¬ s.fz a ∧ ¬ pr a ∧ a ∉ s.os
/-- where the owned of a value in flight comes from -/
def Frs (s : Sx) (ot : List Addr) : Prop := ∀ a ∈ ot, a ∈ s.os ∨ s.H a = none
theorem TmT.own {G : Gx} {pr : Addr → Prop} {σ : L2.St} {s : Sx} {t : Tm} {v : V} {ot : List Addr} (h : TmT G pr σ s t v ot) : ∀ a ∈ ot, Own s.H a := by
  cases t with
  | loc i => obtain ⟨rfl, _⟩ := h; intro a ha; cases ha
  | v k d => exact TmR.own _ _ _ h
  | tp ts => exact TmR.own _ _ _ h
  | ls ts => exact TmR.own _ _ _ h
  | ob c ts => exact TmR.own _ _ _ h
section
variable {G : Gx} {pr : Addr → Prop} {io : List (Nat × V)} {σ : L2.St} {s s' : Sx} {t : Tm} {v : V} {ot : List Addr}
theorem SR.own (r : SR G pr io σ s) : ∀ a ∈ s.os, Own s.H a := Sl.own r.sl
/-- a value in flight lives on -/
theorem Tp.on (h : Tp G pr σ s t v ot) (r : SR G pr io σ s) (e : Ext s s') : Tp G pr σ s' t v ot := by
  have ex : ∀ a ∈ ot, ∃ o, s.H a = some o := fun a ha => (h.rel.own a ha).some
  have kp : ∀ a o, (a ∈ ot ∨ s.fz a ∨ pr a) → s.H a = some o → s'.H a = some o := fun a o p q => by
    refine e.keep a o q fun z => ?_
    rcases p with p | p | p
    · exact (h.sep a p).2.2 z
    · exact (r.sep a z).1 p
    · exact (r.sep a z).2 p
  refine ⟨?_, h.nd, fun a ha => ⟨fun z => ?_, (h.sep a ha).2.1, fun z => ?_⟩⟩
  · have hr := h.rel
    cases t with
    | loc i => exact hr
    | v k d => exact TmR.keep e.fz (fun a p => .inr p) e.tk _ _ _ kp hr
    | tp ts => exact TmR.keep e.fz (fun a p => .inr p) e.tk _ _ _ kp hr
    | ls ts => exact TmR.keep e.fz (fun a p => .inr p) e.tk _ _ _ kp hr
    | ob c ts => exact TmR.keep e.fz (fun a p => .inr p) e.tk _ _ _ kp hr
  · obtain ⟨o, ho⟩ := ex a ha
    rcases e.fzo a z with q | q | q
    · exact (h.sep a ha).1 q
    · exact (h.sep a ha).2.2 q
    · rw [ho] at q; cases q
  · obtain ⟨o, ho⟩ := ex a ha
    rcases e.oso a z with q | q
    · exact (h.sep a ha).2.2 q
    · rw [ho] at q; cases q
/-- what is owned in flight and what comes later are apart -/
theorem Tp.apart {ot2 : List Addr} (h : Tp G pr σ s t v ot) (f : Frs s ot2) : ∀ a ∈ ot, a ∉ ot2 := fun a ha hb => by
  obtain ⟨o, ho⟩ := (h.rel.own a ha).some
  rcases f a hb with q | q
  · exact (h.sep a ha).2.2 q
  · rw [ho] at q; cases q
theorem Frs.on {s1 : Sx} {ot : List Addr} (f : Frs s1 ot) (e : Ext s s1) : Frs s ot := fun a ha => (f a ha).elim (e.oso a) fun z => .inr (e.back z)
theorem Frs.nil : Frs s [] := fun a ha => by cases ha
end

/-- an error by value -/
structure Er where
  c : Nat
  ds : List D
inductive Ou where
  | ok (t : Tm) (ρ : Ss)
  | ex (e : Er) (ρ : Ss)
  | no
abbrev Ev := Ss → Ou
def ErR (G : Gx) (H : Hp) (fz : Addr → Prop) (e : Er) (cls : Value) (d : Option Addr) : Prop :=
  cls = .ref (G.ca e.c) ∧ match e.ds with
  | [] => d = none
  | x :: xs => ∃ dx vs, d = some dx ∧ H dx = some (.xd ((G.cn e.c).zip vs)) ∧ vs.length = (G.cn e.c).length ∧ Reps G H fz (x :: xs) vs
def tEv (G : Gx) (W : WX) (ios : List Nat) (g : Ev) : TE := fun σ H Q => ∃ pr io s, s.H = H ∧ io.map Prod.fst = ios ∧ SR G pr io σ s ∧
  match g s.ρ with
  | .ok t ρ' => ∀ v s' ot, s'.ρ = ρ' → SR G pr io σ s' → Ext s s' → Tp G pr σ s' t v ot → Frs s ot → Q v s'.H
  | .ex e ρ' => ∀ cls d s', s'.ρ = ρ' → SR G pr io σ s' → Ext s s' → ErR G s'.H s'.fz e cls d → W cls d σ s'.H
  | .no => False
/-- the expression x is g by value -/
abbrev PEv (X : Cx) (G : Gx) (W : WX) (ios : List Nat) (x : Expr) (g : Ev) : Prop := PE X x (tEv G W ios g)

/-- argument lists -/
inductive OuL where
  | ok (ts : List Tm) (ρ : Ss)
  | ex (e : Er) (ρ : Ss)
  | no
def TmTs (G : Gx) (pr : Addr → Prop) (σ : L2.St) (s : Sx) : List Tm → List V → List Addr → Prop
  | [], vs, os => vs = [] ∧ os = []
  | t :: ts, vs, os => ∃ v r o1 o2, vs = v :: r ∧ os = o1 ++ o2 ∧ TmT G pr σ s t v o1 ∧ TmTs G pr σ s ts r o2
structure Tps (G : Gx) (pr : Addr → Prop) (σ : L2.St) (s : Sx) (ts : List Tm) (vs : List V) (ot : List Addr) : Prop where
  rel : TmTs G pr σ s ts vs ot
  nd : ot.Nodup
  sep : ∀ a ∈ ot, ¬ s.fz a ∧ ¬ pr a ∧ a ∉ s.os
def tEvs (G : Gx) (W : WX) (ios : List Nat) (g : Ss → OuL) : TA := fun σ H Q => ∃ pr io s, s.H = H ∧ io.map Prod.fst = ios ∧ SR G pr io σ s ∧
  match g s.ρ with
  | .ok ts ρ' => ∀ vs s' ot, s'.ρ = ρ' → SR G pr io σ s' → Ext s s' → Tps G pr σ s' ts vs ot → Frs s ot → Q vs s'.H
  | .ex e ρ' => ∀ cls d s', s'.ρ = ρ' → SR G pr io σ s' → Ext s s' → ErR G s'.H s'.fz e cls d → W cls d σ s'.H
  | .no => False
abbrev PAv (X : Cx) (G : Gx) (W : WX) (ios : List Nat) (xs : List Expr) (g : Ss → OuL) : Prop := PA X xs (tEvs G W ios g)

theorem pe_imp {X : Cx} {x : Expr} {t t' : TE} (h : PE X x t) (i : ∀ σ H Q, t' σ H Q → t σ H Q) : PE X x t' := ⟨fun pins s σ H Q I q => h.run pins s σ H Q I (i σ H Q q)⟩
theorem pa_imp {X : Cx} {x : List Expr} {t t' : TA} (h : PA X x t) (i : ∀ σ H Q, t' σ H Q → t σ H Q) : PA X x t' := ⟨fun pos pins s σ H Q I q => h.run pos pins s σ H Q I (i σ H Q q)⟩
theorem pt_imp {X : Cx} {x : Expr} {t t' : TT} (h : PT X x t) (i : ∀ σ H Q, t' σ H Q → t σ H Q) : PT X x t' := ⟨fun pins s σ H Q I q => h.run pins s σ H Q I (i σ H Q q)⟩

/-- evaluate, then go on -/
def Ou.bind (o : Ou) (k : Tm → Ss → Ou) : Ou := match o with
  | .ok t ρ => k t ρ
  | .ex e ρ => .ex e ρ
  | .no => .no
def Ou.bindL (o : Ou) (k : Tm → Ss → OuL) : OuL := match o with
  | .ok t ρ => k t ρ
  | .ex e ρ => .ex e ρ
  | .no => .no
def OuL.bind (o : OuL) (k : List Tm → Ss → Ou) : Ou := match o with
  | .ok t ρ => k t ρ
  | .ex e ρ => .ex e ρ
  | .no => .no
def OuL.bindL (o : OuL) (k : List Tm → Ss → OuL) : OuL := match o with
  | .ok t ρ => k t ρ
  | .ex e ρ => .ex e ρ
  | .no => .no

/-- what is asked of an outcome, from the state s on: the end of a reading -/
def OuP (G : Gx) (W : WX) (pr : Addr → Prop) (io : List (Nat × V)) (σ : L2.St) (s : Sx) (o : Ou) (Q : VK) : Prop := match o with
  | .ok t ρ' => ∀ v s' ot, s'.ρ = ρ' → SR G pr io σ s' → Ext s s' → Tp G pr σ s' t v ot → Frs s ot → Q v s'.H
  | .ex e ρ' => ∀ cls d s', s'.ρ = ρ' → SR G pr io σ s' → Ext s s' → ErR G s'.H s'.fz e cls d → W cls d σ s'.H
  | .no => False
def OuLP (G : Gx) (W : WX) (pr : Addr → Prop) (io : List (Nat × V)) (σ : L2.St) (s : Sx) (o : OuL) (Q : List V → Hp → Prop) : Prop := match o with
  | .ok ts ρ' => ∀ vs s' ot, s'.ρ = ρ' → SR G pr io σ s' → Ext s s' → Tps G pr σ s' ts vs ot → Frs s ot → Q vs s'.H
  | .ex e ρ' => ∀ cls d s', s'.ρ = ρ' → SR G pr io σ s' → Ext s s' → ErR G s'.H s'.fz e cls d → W cls d σ s'.H
  | .no => False
section
variable {G : Gx} {W : WX} {pr : Addr → Prop} {io : List (Nat × V)} {σ : L2.St} {s s1 : Sx} {ios : List Nat} {g : Ev} {Q : VK}
theorem tEv_of (hi : io.map Prod.fst = ios) (r : SR G pr io σ s) (h : OuP G W pr io σ s (g s.ρ) Q) : tEv G W ios g σ s.H Q := ⟨pr, io, s, rfl, hi, r, h⟩
theorem tEvs_of {g : Ss → OuL} {Q : List V → Hp → Prop} (hi : io.map Prod.fst = ios) (r : SR G pr io σ s) (h : OuLP G W pr io σ s (g s.ρ) Q) : tEvs G W ios g σ s.H Q := ⟨pr, io, s, rfl, hi, r, h⟩
theorem of_tEv {H : Hp} (h : tEv G W ios g σ H Q) : ∃ pr io s, s.H = H ∧ io.map Prod.fst = ios ∧ SR G pr io σ s ∧ OuP G W pr io σ s (g s.ρ) Q := h
theorem of_tEvs {g : Ss → OuL} {H : Hp} {Q : List V → Hp → Prop} (h : tEvs G W ios g σ H Q) : ∃ pr io s, s.H = H ∧ io.map Prod.fst = ios ∧ SR G pr io σ s ∧ OuLP G W pr io σ s (g s.ρ) Q := h
/-- the outcome from a later state is that from an earlier one -/
theorem OuP.later {o : Ou} (h : OuP G W pr io σ s o Q) (e : Ext s s1) : OuP G W pr io σ s1 o Q := by
  cases o with
  | ok t ρ' => exact fun v s' ot h1 h2 h3 h4 h5 => h v s' ot h1 h2 (e.trans h3) h4 (h5.on e)
  | ex e' ρ' => exact fun cls d s' h1 h2 h3 h4 => h cls d s' h1 h2 (e.trans h3) h4
  | no => exact h
theorem OuLP.later {o : OuL} {Q : List V → Hp → Prop} (h : OuLP G W pr io σ s o Q) (e : Ext s s1) : OuLP G W pr io σ s1 o Q := by
  cases o with
  | ok t ρ' => exact fun v s' ot h1 h2 h3 h4 h5 => h v s' ot h1 h2 (e.trans h3) h4 (h5.on e)
  | ex e' ρ' => exact fun cls d s' h1 h2 h3 h4 => h cls d s' h1 h2 (e.trans h3) h4
  | no => exact h
/-- the first part of a bind -/
theorem OuP.bind {o : Ou} {k : Tm → Ss → Ou} (h : OuP G W pr io σ s (o.bind k) Q)
    {R : VK} (hk : ∀ t v s1 ot, SR G pr io σ s1 → Ext s s1 → Tp G pr σ s1 t v ot → Frs s ot → OuP G W pr io σ s1 (k t s1.ρ) Q → R v s1.H) : OuP G W pr io σ s o R := by
  cases o with
  | ok t ρ' =>
    intro v s1 ot e1 r1 x1 p1 f1
    subst e1
    exact hk t v s1 ot r1 x1 p1 f1 (OuP.later h x1)
  | ex e' ρ' => exact h
  | no => exact h
theorem OuP.bindL {o : Ou} {k : Tm → Ss → OuL} {Q : List V → Hp → Prop} (h : OuLP G W pr io σ s (o.bindL k) Q)
    {R : VK} (hk : ∀ t v s1 ot, SR G pr io σ s1 → Ext s s1 → Tp G pr σ s1 t v ot → Frs s ot → OuLP G W pr io σ s1 (k t s1.ρ) Q → R v s1.H) : OuP G W pr io σ s o R := by
  cases o with
  | ok t ρ' =>
    intro v s1 ot e1 r1 x1 p1 f1
    subst e1
    exact hk t v s1 ot r1 x1 p1 f1 (OuLP.later h x1)
  | ex e' ρ' => exact h
  | no => exact h
theorem OuLP.bind {o : OuL} {k : List Tm → Ss → Ou} (h : OuP G W pr io σ s (o.bind k) Q)
    {R : List V → Hp → Prop} (hk : ∀ ts vs s1 ot, SR G pr io σ s1 → Ext s s1 → Tps G pr σ s1 ts vs ot → Frs s ot → OuP G W pr io σ s1 (k ts s1.ρ) Q → R vs s1.H) : OuLP G W pr io σ s o R := by
  cases o with
  | ok t ρ' =>
    intro v s1 ot e1 r1 x1 p1 f1
    subst e1
    exact hk t v s1 ot r1 x1 p1 f1 (OuP.later h x1)
  | ex e' ρ' => exact h
  | no => exact h
theorem OuLP.bindL {o : OuL} {k : List Tm → Ss → OuL} {Q : List V → Hp → Prop} (h : OuLP G W pr io σ s (o.bindL k) Q)
    {R : List V → Hp → Prop} (hk : ∀ ts vs s1 ot, SR G pr io σ s1 → Ext s s1 → Tps G pr σ s1 ts vs ot → Frs s ot → OuLP G W pr io σ s1 (k ts s1.ρ) Q → R vs s1.H) : OuLP G W pr io σ s o R := by
  cases o with
  | ok t ρ' =>
    intro v s1 ot e1 r1 x1 p1 f1
    subst e1
    exact hk t v s1 ot r1 x1 p1 f1 (OuLP.later h x1)
  | ex e' ρ' => exact h
  | no => exact h
/-- the same, told from the first state -/
theorem OuP.bind0 {o : Ou} {k : Tm → Ss → Ou} (h : OuP G W pr io σ s (o.bind k) Q)
    {R : VK} (hk : ∀ t v s1 ot, SR G pr io σ s1 → Ext s s1 → Tp G pr σ s1 t v ot → Frs s ot → OuP G W pr io σ s (k t s1.ρ) Q → R v s1.H) : OuP G W pr io σ s o R := by
  cases o with
  | ok t ρ' =>
    intro v s1 ot e1 r1 x1 p1 f1
    subst e1
    exact hk t v s1 ot r1 x1 p1 f1 h
  | ex e' ρ' => exact h
  | no => exact h
theorem OuLP.bind0 {o : OuL} {k : List Tm → Ss → Ou} (h : OuP G W pr io σ s (o.bind k) Q)
    {R : List V → Hp → Prop} (hk : ∀ ts vs s1 ot, SR G pr io σ s1 → Ext s s1 → Tps G pr σ s1 ts vs ot → Frs s ot → OuP G W pr io σ s (k ts s1.ρ) Q → R vs s1.H) : OuLP G W pr io σ s o R := by
  cases o with
  | ok t ρ' =>
    intro v s1 ot e1 r1 x1 p1 f1
    subst e1
    exact hk t v s1 ot r1 x1 p1 f1 h
  | ex e' ρ' => exact h
  | no => exact h
/-- general: the whole is told from s, the part from s1 -/
theorem OuP.bindLG {o : Ou} {k : Tm → Ss → OuL} {Q : List V → Hp → Prop} (x : Ext s s1) (h : OuLP G W pr io σ s (o.bindL k) Q)
    {R : VK} (hk : ∀ t v s2 ot, SR G pr io σ s2 → Ext s1 s2 → Tp G pr σ s2 t v ot → Frs s1 ot → OuLP G W pr io σ s (k t s2.ρ) Q → R v s2.H) : OuP G W pr io σ s1 o R := by
  cases o with
  | ok t ρ' =>
    intro v s2 ot e1 r1 x1 p1 f1
    subst e1
    exact hk t v s2 ot r1 x1 p1 f1 h
  | ex e' ρ' => exact OuLP.later h x
  | no => exact h
theorem OuLP.bindLG {o : OuL} {k : List Tm → Ss → OuL} {Q : List V → Hp → Prop} (x : Ext s s1) (h : OuLP G W pr io σ s (o.bindL k) Q)
    {R : List V → Hp → Prop} (hk : ∀ ts vs s2 ot, SR G pr io σ s2 → Ext s1 s2 → Tps G pr σ s2 ts vs ot → Frs s1 ot → OuLP G W pr io σ s (k ts s2.ρ) Q → R vs s2.H) : OuLP G W pr io σ s1 o R := by
  cases o with
  | ok t ρ' =>
    intro v s2 ot e1 r1 x1 p1 f1
    subst e1
    exact hk t v s2 ot r1 x1 p1 f1 h
  | ex e' ρ' => exact OuLP.later h x
  | no => exact h
/-- an end without a change: nothing new is owned -/
theorem OuP.here {t : Tm} {v : V} {ot : List Addr} (h : OuP G W pr io σ s (.ok t s.ρ) Q) (r : SR G pr io σ s) (p : Tp G pr σ s t v ot) (f : Frs s ot) : Q v s.H := h v s ot rfl r (Ext.refl s) p f
/-- .. where the value in flight is owned by nobody -/
theorem OuP.done {d : D} {v : V} (h : OuP G W pr io σ s (.ok (.v .F d) s.ρ) Q) (r : SR G pr io σ s) (p : Rep G s.H s.fz d v) : Q v s.H :=
  h.here r (ot := []) ⟨⟨rfl, p⟩, .nil, fun a ha => by cases ha⟩ Frs.nil
end
end PV

namespace PV
open PySem PySem.Spec L2

/-! ### forgetting who owns -/
mutual
def toD : Tm → D
  | .v _ d => d
  | .tp ts => .tup (toDs ts)
  | .ls ts => .lst (toDs ts)
  | .ob c ts => .ins c (toDs ts)
  | .loc _ => .non
def toDs : List Tm → List D
  | [] => []
  | t :: ts => toD t :: toDs ts
end
/-- to be shared for good, if nothing lent is in it -/
def elk (k : Kd) (xs : List D) : Option (List D) := match k with
  | .B => if xs.all flat = true then some xs else none
  | _ => some xs
mutual
def frz : Tm → Option D
  | .v .B d => if flat d = true then some d else none
  | .v _ d => some d
  | .tp ts => (frzs ts).map .tup
  | .ls ts => (frzs ts).map .lst
  | .ob c ts => (frzs ts).map (.ins c)
  | .loc _ => none
def frzs : List Tm → Option (List D)
  | [] => some []
  | t :: ts => match frz t, frzs ts with
    | some d, some ds => some (d :: ds)
    | _, _ => none
end
/-- what stands behind a place -/
def derT (ρ : Ss) : Tm → Option Tm
  | .loc i => match ρ[i]? with
    | some (some t) => some t
    | _ => none
  | t => some t

abbrev TT1 : Addr → Prop := fun _ => True
theorem Rep.any {G : Gx} {H : Hp} {P : Addr → Prop} {d : D} {v : V} (h : Rep G H P d v) : Rep G H TT1 d v := Rep.keep (fun _ _ => trivial) (fun _ _ _ h => h) (Tk.refl H) d v h
theorem Reps.any {G : Gx} {H : Hp} {P : Addr → Prop} {d : List D} {v : List V} (h : Reps G H P d v) : Reps G H TT1 d v := Reps.keep (fun _ _ => trivial) (fun _ _ _ h => h) (Tk.refl H) d v h
theorem Rep.mono {G : Gx} {H : Hp} {P P' : Addr → Prop} {d : D} {v : V} (i : ∀ a, P a → P' a) (h : Rep G H P d v) : Rep G H P' d v := Rep.keep i (fun _ _ _ h => h) (Tk.refl H) d v h
theorem Reps.mono {G : Gx} {H : Hp} {P P' : Addr → Prop} {d : List D} {v : List V} (i : ∀ a, P a → P' a) (h : Reps G H P d v) : Reps G H P' d v := Reps.keep i (fun _ _ _ h => h) (Tk.refl H) d v h
theorem RepO.any {G : Gx} {H : Hp} {fz : Addr → Prop} {d : D} {v : V} {os : List Addr} (h : RepO G H fz d v os) : Rep G H (fun a => fz a ∨ a ∈ os) d v := by
  have i : ∀ a, fz a → fz a ∨ a ∈ os := fun a p => .inl p
  cases d <;> simp only [RepO] at h
  case lst xs => obtain ⟨a, vs, rfl, rfl, h1, h2⟩ := h; simp only [Rep]; exact ⟨a, vs, rfl, .inr (by simp), h1, h2.mono i⟩
  case dK ks xs => obtain ⟨a, vs, rfl, rfl, h1, hl, h2⟩ := h; simp only [Rep]; exact ⟨a, vs, rfl, .inr (by simp), h1, hl, h2.mono i⟩
  case dT ks xs => obtain ⟨a, kv, vs, es, rfl, rfl, h1, hl, h2, h3⟩ := h; simp only [Rep]; exact ⟨a, kv, vs, es, rfl, .inr (by simp), h1, hl, h2.mono i, h3.mono i⟩
  case ins c xs => obtain ⟨a, dx, vs, rfl, rfl, h1, hl, h2⟩ := h; simp only [Rep]; exact ⟨a, dx, vs, rfl, .inr (by simp), h1, hl, h2.mono i⟩
  all_goals exact h.2.mono i
mutual
theorem TmR.toD {G : Gx} {H : Hp} {fz pr : Addr → Prop} : ∀ (t : Tm) (v : V) (os : List Addr), TmR G H fz pr t v os → Rep G H TT1 (PV.toD t) v
  | .v .F d, v, os, h => by simp only [TmR] at h; simp only [PV.toD]; exact h.2.any
  | .v .B d, v, os, h => by simp only [TmR] at h; simp only [PV.toD]; exact h.2.any
  | .v .O d, v, os, h => by simp only [TmR] at h; simp only [PV.toD]; exact h.any.any
  | .tp ts, v, os, h => by simp only [TmR] at h; simp only [PV.toD, Rep]; obtain ⟨a, vs, e, h1, h2⟩ := h; exact ⟨a, vs, e, h1, TmRs.toD ts vs os h2⟩
  | .ls ts, v, os, h => by simp only [TmR] at h; simp only [PV.toD, Rep]; obtain ⟨a, vs, o, e, rfl, h1, h2⟩ := h; exact ⟨a, vs, e, trivial, h1, TmRs.toD ts vs o h2⟩
  | .ob c ts, v, os, h => by simp only [TmR] at h; simp only [PV.toD, Rep]; obtain ⟨a, dx, vs, o, e, rfl, h1, hl, h2⟩ := h; exact ⟨a, dx, vs, e, trivial, h1, hl, TmRs.toD ts vs o h2⟩
  | .loc i, v, os, h => by simp only [TmR] at h
theorem TmRs.toD {G : Gx} {H : Hp} {fz pr : Addr → Prop} : ∀ (ts : List Tm) (vs : List V) (os : List Addr), TmRs G H fz pr ts vs os → Reps G H TT1 (PV.toDs ts) vs
  | [], vs, os, h => by simp only [TmRs] at h; simp only [PV.toDs, Reps]; exact h.1
  | t :: ts, vs, os, h => by
    simp only [TmRs] at h; simp only [PV.toDs, Reps]
    obtain ⟨v, r, o1, o2, rfl, rfl, h1, h2⟩ := h
    exact ⟨v, r, rfl, TmR.toD t v o1 h1, TmRs.toD ts r o2 h2⟩
end
mutual
/-- frozen: the addresses that were owned are shared for good from now on -/
theorem TmR.frz {G : Gx} {H : Hp} {fz pr : Addr → Prop} : ∀ (t : Tm) (v : V) (os : List Addr) (d : D), TmR G H fz pr t v os → PV.frz t = some d → Rep G H (fun a => fz a ∨ a ∈ os) d v
  | .v .F d, v, os, d', h, e => by
    simp only [TmR] at h; simp only [PV.frz, Option.some.injEq] at e; subst e
    exact h.2.mono fun a p => .inl p
  | .v .B d, v, os, d', h, e => by
    simp only [TmR] at h; simp only [PV.frz] at e
    by_cases f : PV.flat d = true
    · rw [if_pos f] at e; cases e; exact Rep.flat _ _ f h.2
    · rw [if_neg f] at e; cases e
  | .v .O d, v, os, d', h, e => by
    simp only [TmR] at h; simp only [PV.frz, Option.some.injEq] at e; subst e
    exact h.any
  | .tp ts, v, os, d', h, e => by
    simp only [TmR] at h; simp only [PV.frz, Option.map_eq_some_iff] at e
    obtain ⟨ds, e1, rfl⟩ := e
    obtain ⟨a, vs, ev, h1, h2⟩ := h
    simp only [Rep]
    exact ⟨a, vs, ev, h1, TmRs.frz ts vs os ds h2 e1⟩
  | .ls ts, v, os, d', h, e => by
    simp only [TmR] at h; simp only [PV.frz, Option.map_eq_some_iff] at e
    obtain ⟨ds, e1, rfl⟩ := e
    obtain ⟨a, vs, o, ev, rfl, h1, h2⟩ := h
    simp only [Rep]
    exact ⟨a, vs, ev, .inr List.mem_cons_self, h1, (TmRs.frz ts vs o ds h2 e1).mono fun b p => p.elim .inl fun z => .inr (List.mem_cons_of_mem _ z)⟩
  | .ob c ts, v, os, d', h, e => by
    simp only [TmR] at h; simp only [PV.frz, Option.map_eq_some_iff] at e
    obtain ⟨ds, e1, rfl⟩ := e
    obtain ⟨a, dx, vs, o, ev, rfl, h1, hl, h2⟩ := h
    simp only [Rep]
    exact ⟨a, dx, vs, ev, .inr List.mem_cons_self, h1, hl, (TmRs.frz ts vs o ds h2 e1).mono fun b p => p.elim .inl fun z => .inr (List.mem_cons_of_mem _ z)⟩
  | .loc i, v, os, d', h, e => by simp only [TmR] at h
theorem TmRs.frz {G : Gx} {H : Hp} {fz pr : Addr → Prop} : ∀ (ts : List Tm) (vs : List V) (os : List Addr) (ds : List D), TmRs G H fz pr ts vs os → PV.frzs ts = some ds → Reps G H (fun a => fz a ∨ a ∈ os) ds vs
  | [], vs, os, ds, h, e => by simp only [TmRs] at h; simp only [PV.frzs, Option.some.injEq] at e; subst e; simp only [Reps]; exact h.1
  | t :: ts, vs, os, ds, h, e => by
    simp only [TmRs] at h; simp only [PV.frzs] at e
    obtain ⟨v, r, o1, o2, rfl, rfl, h1, h2⟩ := h
    cases e1 : PV.frz t with
    | none => rw [e1] at e; cases e
    | some d =>
      cases e2 : PV.frzs ts with
      | none => rw [e1, e2] at e; cases e
      | some ds' =>
        rw [e1, e2] at e
        cases e
        simp only [Reps]
        exact ⟨v, r, rfl, (TmR.frz t v o1 d h1 e1).mono fun a p => p.elim .inl fun z => .inr (List.mem_append_left _ z), (TmRs.frz ts r o2 ds' h2 e2).mono fun a p => p.elim .inl fun z => .inr (List.mem_append_right _ z)⟩
end
theorem Reps.len {G : Gx} {H : Hp} {P : Addr → Prop} : ∀ {ds : List D} {vs : List V}, Reps G H P ds vs → ds.length = vs.length
  | [], vs, h => by simp only [Reps] at h; subst h; rfl
  | d :: ds, vs, h => by simp only [Reps] at h; obtain ⟨v, r, rfl, _, h⟩ := h; simp [Reps.len h]
theorem Reps.app {G : Gx} {H : Hp} {P : Addr → Prop} : ∀ {ds es : List D} {vs ws : List V}, Reps G H P ds vs → Reps G H P es ws → Reps G H P (ds ++ es) (vs ++ ws)
  | [], es, vs, ws, h, h2 => by simp only [Reps] at h; subst h; exact h2
  | d :: ds, es, vs, ws, h, h2 => by
    simp only [Reps] at h
    obtain ⟨v, r, rfl, h1, h⟩ := h
    simp only [List.cons_append, Reps]
    exact ⟨v, r ++ ws, rfl, h1, Reps.app h h2⟩
theorem Reps.get {G : Gx} {H : Hp} {P : Addr → Prop} : ∀ {ds : List D} {vs : List V} {i : Nat} {d : D}, Reps G H P ds vs → ds[i]? = some d → ∃ v, vs[i]? = some v ∧ Rep G H P d v
  | [], vs, i, d, h, e => by simp at e
  | d0 :: ds, vs, 0, d, h, e => by
    simp only [Reps] at h
    obtain ⟨v, r, rfl, h1, h⟩ := h
    have e' : d0 = d := by simpa using e
    subst e'
    exact ⟨v, rfl, h1⟩
  | d0 :: ds, vs, i + 1, d, h, e => by
    simp only [Reps] at h
    obtain ⟨v, r, rfl, h1, h⟩ := h
    obtain ⟨w, e1, e2⟩ := Reps.get h (i := i) (d := d) (by simpa using e)
    exact ⟨w, by simpa using e1, e2⟩
theorem Reps.elk {G : Gx} {H : Hp} {P P' : Addr → Prop} {k : Kd} {xs ys : List D} {vs : List V} (e : PV.elk k xs = some ys) (h : Reps G H P xs vs) (hp : k ≠ .B → ∀ a, P a → P' a) : Reps G H P' ys vs := by
  cases k with
  | F => cases e; exact h.mono (hp (by decide))
  | O => cases e; exact h.mono (hp (by decide))
  | B =>
    simp only [PV.elk] at e
    by_cases f : xs.all PV.flat = true
    · rw [if_pos f] at e; cases e
      exact Reps.flat _ _ (by rw [flats_all]; exact f) h
    · rw [if_neg f] at e; cases e
theorem Reps.drop {G : Gx} {H : Hp} {P : Addr → Prop} : ∀ {ds : List D} {vs : List V} (n : Nat), Reps G H P ds vs → Reps G H P (ds.drop n) (vs.drop n)
  | ds, vs, 0, h => by simpa using h
  | [], vs, n + 1, h => by simp only [Reps] at h; subst h; simp [Reps]
  | d :: ds, vs, n + 1, h => by
    simp only [Reps] at h
    obtain ⟨v, r, rfl, _, h⟩ := h
    simpa using Reps.drop n h
theorem Reps.take {G : Gx} {H : Hp} {P : Addr → Prop} : ∀ {ds : List D} {vs : List V} (n : Nat), Reps G H P ds vs → Reps G H P (ds.take n) (vs.take n)
  | ds, vs, 0, h => by simp [Reps]
  | [], vs, n + 1, h => by simp only [Reps] at h; subst h; simp [Reps]
  | d :: ds, vs, n + 1, h => by
    simp only [Reps] at h
    obtain ⟨v, r, rfl, h1, h⟩ := h
    simp only [List.take_succ_cons, Reps]
    exact ⟨v, _, rfl, h1, Reps.take n h⟩
theorem Reps.set {G : Gx} {H : Hp} {P : Addr → Prop} {d : D} {v : V} (hd : Rep G H P d v) : ∀ {ds : List D} {vs : List V} (n : Nat), Reps G H P ds vs → Reps G H P (ds.set n d) (vs.set n v)
  | [], vs, n, h => by simp only [Reps] at h; subst h; simp [Reps]
  | d0 :: ds, vs, 0, h => by
    simp only [Reps] at h
    obtain ⟨v0, r, rfl, h1, h⟩ := h
    simp only [List.set_cons_zero, Reps]
    exact ⟨v, r, rfl, hd, h⟩
  | d0 :: ds, vs, n + 1, h => by
    simp only [Reps] at h
    obtain ⟨v0, r, rfl, h1, h⟩ := h
    simp only [List.set_cons_succ, Reps]
    exact ⟨v0, _, rfl, h1, Reps.set hd n h⟩
theorem Reps.eraseIdx {G : Gx} {H : Hp} {P : Addr → Prop} : ∀ {ds : List D} {vs : List V} (n : Nat), Reps G H P ds vs → Reps G H P (ds.eraseIdx n) (vs.eraseIdx n)
  | [], vs, n, h => by simp only [Reps] at h; subst h; simp [Reps]
  | d0 :: ds, vs, 0, h => by
    simp only [Reps] at h
    obtain ⟨v0, r, rfl, h1, h⟩ := h
    exact h
  | d0 :: ds, vs, n + 1, h => by
    simp only [Reps] at h
    obtain ⟨v0, r, rfl, h1, h⟩ := h
    simp only [List.eraseIdx_cons_succ, Reps]
    exact ⟨v0, _, rfl, h1, Reps.eraseIdx n h⟩

section
variable {G : Gx} {W : WX} {pr : Addr → Prop} {io : List (Nat × V)} {σ : L2.St} {s s1 : Sx} {ios : List Nat} {Q : VK} {X : Cx}
/-- a new object -/
def Sx.new (s : Sx) (p : Addr) (o : HO) : Sx := { s with H := upd s.H p o }
theorem tk_new {H : Hp} {p : Addr} (hp : H p = none) (o : HO) : Tk H (upd H p o) := ⟨fun a vs h => by rw [upd_ne (ne_of_none h hp)]; exact h, fun a o' u h => by rw [upd_ne (ne_of_none h hp)]; exact h⟩
theorem SR.new (r : SR G pr io σ s) {p : Addr} (hp : s.H p = none) (o : HO) : SR G pr io σ (s.new p o) := by
  refine ⟨Sl.keep (fun _ h => h) (fun _ h => .inr h) (tk_new hp o) (fun a u _ e => by show upd _ _ _ _ = _; rw [upd_ne (ne_of_none e hp)]; exact e) r.sl, r.nd, r.sep, fun a h => ?_, r.iov⟩
  show upd _ _ _ _ ≠ none
  by_cases e : a = p
  · subst e; rw [upd_same]; simp
  · rw [upd_ne e]; exact r.dom a h
theorem Ext.new {p : Addr} (hp : s.H p = none) (o : HO) : Ext s (s.new p o) := by
  refine ⟨fun a u e _ => ?_, fun a h => ?_, tk_new hp o, fun _ h => h, fun _ h => .inl h, fun _ h => .inl h⟩
  · show upd _ _ _ _ = _
    rw [upd_ne (ne_of_none e hp)]; exact e
  · show upd _ _ _ _ ≠ none
    by_cases e : a = p
    · subst e; rw [upd_same]; simp
    · rw [upd_ne e]; exact h
theorem SR.fresh (r : SR G pr io σ s) {p : Addr} (hp : s.H p = none) : ¬ s.fz p ∧ ¬ pr p ∧ p ∉ s.os :=
  ⟨fun z => r.dom p (.inl z) hp, fun z => r.dom p (.inr z) hp, fun z => (r.own p z).ne hp⟩
/-- ends: a new list, a new tuple, a new dict by number or text keys -/
theorem OuP.lst {ds : List D} {vs : List V} (h : OuP G W pr io σ s (.ok (.v .O (.lst ds)) s.ρ) Q) (r : SR G pr io σ s) (hd : Reps G s.H s.fz ds vs) {p : Addr} (hp : s.H p = none) : Q (.ref p) (upd s.H p (.lst vs)) := by
  have f := r.fresh hp
  refine h _ (s.new p (.lst vs)) [p] rfl (r.new hp _) (Ext.new hp _) ⟨?_, by simp, fun a ha => ?_⟩ fun a ha => ?_
  · show TmR _ _ _ _ _ _ _
    simp only [TmR, RepO]
    exact ⟨p, vs, rfl, rfl, upd_same, Reps.keep (fun _ z => z) (fun a o _ e => by show upd _ _ _ _ = _; rw [upd_ne (ne_of_none e hp)]; exact e) (tk_new hp _) _ _ hd⟩
  · rw [List.mem_singleton] at ha; subst ha; exact f
  · rw [List.mem_singleton] at ha; subst ha; exact .inr hp
theorem OuP.tup {ds : List D} {vs : List V} (h : OuP G W pr io σ s (.ok (.v .F (.tup ds)) s.ρ) Q) (r : SR G pr io σ s) (hd : Reps G s.H s.fz ds vs) {p : Addr} (hp : s.H p = none) : Q (.ref p) (upd s.H p (.tup vs)) := by
  refine h _ (s.new p (.tup vs)) [] rfl (r.new hp _) (Ext.new hp _) ⟨?_, .nil, fun a ha => by cases ha⟩ Frs.nil
  show TmR _ _ _ _ _ _ _
  simp only [TmR, Rep]
  exact ⟨trivial, p, vs, rfl, upd_same, Reps.keep (fun _ z => z) (fun a o _ e => by show upd _ _ _ _ = _; rw [upd_ne (ne_of_none e hp)]; exact e) (tk_new hp _) _ _ hd⟩

/-- what stands behind a value in flight -/
theorem SR.at (r : SR G pr io σ s) {i : Nat} {t : Tm} {v : V} (e : s.ρ[i]? = some (some t)) (hv : σ[i]? = some (some v)) : ∃ o, TmR G s.H s.fz pr t v o ∧ ∀ a ∈ o, a ∈ s.os := by
  obtain ⟨v', o1, o2, o3, e1, e2, h, _⟩ := Sl.get r.sl e
  rw [hv] at e1
  cases e1
  exact ⟨o2, h, fun a ha => by rw [e2]; simp [ha]⟩
theorem Tp.der {t u : Tm} {v : V} {ot : List Addr} (p : Tp G pr σ s t v ot) (r : SR G pr io σ s) (e : derT s.ρ t = some u) : ∃ o, TmR G s.H s.fz pr u v o := by
  cases t with
  | loc i =>
    obtain ⟨_, hv⟩ := p.rel
    simp only [derT] at e
    cases q : s.ρ[i]? with
    | none => rw [q] at e; cases e
    | some x =>
      cases x with
      | none => rw [q] at e; cases e
      | some t =>
        rw [q] at e
        cases e
        obtain ⟨o, h, _⟩ := r.at q hv
        exact ⟨o, h⟩
  | v k d => cases e; exact ⟨ot, p.rel⟩
  | tp ts => cases e; exact ⟨ot, p.rel⟩
  | ls ts => cases e; exact ⟨ot, p.rel⟩
  | ob c ts => cases e; exact ⟨ot, p.rel⟩

/-! ### operations on one, on two values -/
def eOp1 (f : Tm → Option Tm) (ga : Ev) : Ev := fun ρ => (ga ρ).bind fun t ρ1 => match (derT ρ1 t).bind f with
  | some r => .ok r ρ1
  | none => .no
def eOp2 (f : Tm → Tm → Option Tm) (ga gb : Ev) : Ev := fun ρ => (ga ρ).bind fun t ρ1 => (gb ρ1).bind fun u ρ2 => match derT ρ2 t, derT ρ2 u with
  | some x, some y => match f x y with
    | some r => .ok r ρ2
    | none => .no
  | _, _ => .no
/-- what is to be shown of an operation: r is its rule's reading -/
def Op1 (G : Gx) (W : WX) (f : Tm → Option Tm) (r : V → Hp → VK → Prop) : Prop := ∀ (pr : Addr → Prop) (io : List (Nat × V)) (σ : L2.St) (s : Sx) (x : V) (tx t : Tm) (ox : List Addr) (Q : VK), SR G pr io σ s → TmR G s.H s.fz pr tx x ox → f tx = some t →
  OuP G W pr io σ s (.ok t s.ρ) Q → r x s.H Q
def Op2 (G : Gx) (W : WX) (f : Tm → Tm → Option Tm) (r : R2) : Prop := ∀ (pr : Addr → Prop) (io : List (Nat × V)) (σ : L2.St) (s : Sx) (x y : V) (tx ty t : Tm) (ox oy : List Addr) (Q : VK), SR G pr io σ s → TmR G s.H s.fz pr tx x ox → TmR G s.H s.fz pr ty y oy → f tx ty = some t →
  OuP G W pr io σ s (.ok t s.ρ) Q → r x y s.H Q
theorem op1_end {f : Tm → Option Tm} {r : V → Hp → VK → Prop} (h : Op1 G W f r) {ga : Ev} {ta : TE} (hta : ta = tEv G W ios ga) {H : Hp} (q : tEv G W ios (eOp1 f ga) σ H Q) : ta σ H (fun x H1 => r x H1 Q) := by
  subst hta
  obtain ⟨pr, io, s, rfl, hi, hr, q⟩ := of_tEv q
  refine tEv_of hi hr (OuP.bind q fun t v s1 ot r1 x1 p1 f1 q1 => ?_)
  cases e : derT s1.ρ t with
  | none => simp only [e, Option.bind_none] at q1; exact q1.elim
  | some u =>
    simp only [e, Option.bind_some] at q1
    cases e2 : f u with
    | none => simp only [e2] at q1; exact q1.elim
    | some w =>
      simp only [e2] at q1
      obtain ⟨o, hu⟩ := p1.der r1 e
      exact h pr io σ s1 v u w o Q r1 hu e2 q1
theorem op2_end {f : Tm → Tm → Option Tm} {r : R2} (h : Op2 G W f r) {ga gb : Ev} {H : Hp} (q : tEv G W ios (eOp2 f ga gb) σ H Q) : tEv G W ios ga σ H (fun x H1 => tEv G W ios gb σ H1 fun y H2 => r x y H2 Q) := by
  obtain ⟨pr, io, s, rfl, hi, hr, q⟩ := of_tEv q
  refine tEv_of hi hr (OuP.bind q fun t v s1 ot r1 x1 p1 f1 q1 => ?_)
  refine tEv_of hi r1 (OuP.bind q1 fun t2 v2 s2 ot2 r2 x2 p2 f2 q2 => ?_)
  have p1' := p1.on r1 x2
  cases e : derT s2.ρ t with
  | none => simp only [e] at q2; exact q2.elim
  | some u =>
    cases e' : derT s2.ρ t2 with
    | none => simp only [e, e'] at q2; exact q2.elim
    | some u2 =>
      simp only [e, e'] at q2
      cases e2 : f u u2 with
      | none => simp only [e2] at q2; exact q2.elim
      | some w =>
        simp only [e2] at q2
        obtain ⟨o, hu⟩ := p1'.der r2 e
        obtain ⟨o', hu'⟩ := p2.der r2 e'
        exact h pr io σ s2 v v2 u u2 w o o' Q r2 hu hu' e2 q2
section
variable {a b : Expr} {pos : Pos} {ga gb : Ev}
theorem v_op {op : Operator} {r : R2} {f : Tm → Tm → Option Tm} (ho : OpR X (binaryOp op) r) (h : Op2 G W f r) (ha : PEv X G W ios a ga) (hb : PEv X G W ios b gb) : PEv X G W ios (.BinOp a op b pos) (eOp2 f ga gb) :=
  pe_imp (pe_op ho ha hb) fun _ _ _ q => op2_end h q
theorem v_cmp {op : CmpOp} {r : R2} {f : Tm → Tm → Option Tm} (ho : OpR X (compareOp op) r) (h : Op2 G W f r) (ha : PEv X G W ios a ga) (hb : PEv X G W ios b gb) (hm : behindInMarks op b = false) : PEv X G W ios (.Compare a [op] [b] pos) (eOp2 f ga gb) :=
  pe_imp (pe_cmpR ho ha hb hm) fun _ _ _ q => op2_end h q
theorem v_un {op : UnaryOp} {r : V → Hp → VK → Prop} {f : Tm → Option Tm} (ho : UnR X (unaryOp op) r) (h : Op1 G W f r) (ha : PEv X G W ios a ga) : PEv X G W ios (.UnaryOp op a pos) (eOp1 f ga) :=
  pe_imp (pe_un ho ha) fun _ _ _ q => op1_end h rfl q
theorem v_ix {r : R2} {f : Tm → Tm → Option Tm} (ho : IxR X r) (h : Op2 G W f r) (ha : PEv X G W ios a ga) (hb : PEv X G W ios b gb) (hs : PlainIx b) : PEv X G W ios (.Subscript a b pos) (eOp2 f ga gb) :=
  pe_imp (pe_ix ho ha hb hs) fun _ _ _ q => op2_end h q
end
end
end PV

namespace PV
open PySem PySem.Spec L2

def rd1 (f : D → Option D) : Tm → Option Tm := fun a => (f (toD a)).map (Tm.v .F)
def rd2 (f : D → D → Option D) : Tm → Tm → Option Tm := fun a b => (f (toD a) (toD b)).map (Tm.v .F)
/-- a rule's reading that reads, and answers something flat -/
def Rd1 (G : Gx) (f : D → Option D) (r : V → Hp → VK → Prop) : Prop := ∀ (H : Hp) (x : V) (dx d : D) (Q : VK), Rep G H TT1 dx x → f dx = some d → (∀ v, (∀ P, Rep G H P d v) → Q v H) → r x H Q
def Rd2 (G : Gx) (f : D → D → Option D) (r : R2) : Prop := ∀ (H : Hp) (x y : V) (dx dy d : D) (Q : VK), Rep G H TT1 dx x → Rep G H TT1 dy y → f dx dy = some d → (∀ v, (∀ P, Rep G H P d v) → Q v H) → r x y H Q
section
variable {G : Gx} {W : WX}
theorem Rd1.op {f : D → Option D} {r : V → Hp → VK → Prop} (h : Rd1 G f r) : Op1 G W (rd1 f) r := by
  intro pr io σ s x tx t ox Q hr hx e q
  simp only [rd1, Option.map_eq_some_iff] at e
  obtain ⟨d, e, rfl⟩ := e
  exact h s.H x _ d Q (TmR.toD _ _ _ hx) e fun v hv => q.done hr (hv _)
theorem Rd2.op {f : D → D → Option D} {r : R2} (h : Rd2 G f r) : Op2 G W (rd2 f) r := by
  intro pr io σ s x y tx ty t ox oy Q hr hx hy e q
  simp only [rd2, Option.map_eq_some_iff] at e
  obtain ⟨d, e, rfl⟩ := e
  exact h s.H x y _ _ d Q (TmR.toD _ _ _ hx) (TmR.toD _ _ _ hy) e fun v hv => q.done hr (hv _)
end

/-! ### ints -/
def dI2 (f : Int → Int → Option Int) : D → D → Option D
  | .int i, .int j => (f i j).map .int
  | _, _ => none
def dC2 (f : Int → Int → Bool) : D → D → Option D
  | .int i, .int j => some (.bl (f i j))
  | _, _ => none
theorem rdI {G : Gx} {f : Int → Int → Option Int} {C : Int → Int → Prop} {g : Int → Int → V} (h : ∀ i j k, f i j = some k → C i j ∧ g i j = .int k) : Rd2 G (dI2 f) (rI C g) := by
  intro H x y dx dy d Q hx hy e q
  cases dx <;> cases dy <;> simp only [dI2, Option.map_eq_some_iff, reduceCtorEq] at e
  rename_i i j
  obtain ⟨k, e, rfl⟩ := e
  simp only [Rep] at hx hy
  obtain ⟨h1, h2⟩ := h i j k e
  exact ⟨i, j, hx, hy, h1, by rw [h2]; exact q _ fun P => by simp only [Rep]⟩
theorem rdI0 {G : Gx} {f : Int → Int → Option Int} {g : Int → Int → V} (h : ∀ i j k, f i j = some k → g i j = .int k) : Rd2 G (dI2 f) (rI0 g) := by
  intro H x y dx dy d Q hx hy e q
  cases dx <;> cases dy <;> simp only [dI2, Option.map_eq_some_iff, reduceCtorEq] at e
  rename_i i j
  obtain ⟨k, e, rfl⟩ := e
  simp only [Rep] at hx hy
  exact ⟨i, j, hx, hy, by rw [h i j k e]; exact q _ fun P => by simp only [Rep]⟩
theorem rdC {G : Gx} {f : Int → Int → Bool} : Rd2 G (dC2 f) (rI0 fun i j => .bl (f i j)) := by
  intro H x y dx dy d Q hx hy e q
  cases dx <;> cases dy <;> simp only [dC2, Option.some.injEq, reduceCtorEq] at e
  subst e
  simp only [Rep] at hx hy
  exact ⟨_, _, hx, hy, q _ fun P => by simp only [Rep]⟩

/-- a + b -/
def addV (k : Kd) (x : D) (k' : Kd) (y : D) : Option Tm := match x, y with
  | .int i, .int j => some (.v .F (.int (i + j)))
  | .str a, .str b => if a.length + b.length ≤ sizeLine then some (.v .F (.str (a ++ b))) else none
  | .lst xs, .lst ys => match elk k xs, elk k' ys with
    | some xs, some ys => if xs.length + ys.length ≤ sizeLine then some (.v .O (.lst (xs ++ ys))) else none
    | _, _ => none
  | .tup xs, .tup ys => match elk k xs, elk k' ys with
    | some xs, some ys => if xs.length + ys.length ≤ sizeLine then some (.v .F (.tup (xs ++ ys))) else none
    | _, _ => none
  | _, _ => none
def opAdd (a b : Tm) : Option Tm := match a, b with
  | .v k x, .v k' y => addV k x k' y
  | _, _ => none
def eAdd : Ev → Ev → Ev := eOp2 opAdd
/-- the items of a list or tuple, as they are read -/
theorem lst_items {G : Gx} {H : Hp} {fz pr : Addr → Prop} {k : Kd} {xs ys : List D} {x : V} {ox : List Addr} (h : TmR G H fz pr (.v k (.lst xs)) x ox) (e : elk k xs = some ys) : ∃ a vs, x = .ref a ∧ H a = some (.lst vs) ∧ Reps G H fz ys vs := by
  cases k with
  | F =>
    simp only [TmR, Rep] at h
    obtain ⟨_, a, vs, e1, _, e2, h⟩ := h
    exact ⟨a, vs, e1, e2, h.elk e fun _ _ p => p⟩
  | B =>
    simp only [TmR, Rep] at h
    obtain ⟨_, a, vs, e1, _, e2, h⟩ := h
    exact ⟨a, vs, e1, e2, h.elk e fun z => absurd rfl z⟩
  | O =>
    simp only [TmR, RepO] at h
    obtain ⟨a, vs, e1, _, e2, h⟩ := h
    exact ⟨a, vs, e1, e2, h.elk e fun _ _ p => p⟩
theorem tup_items {G : Gx} {H : Hp} {fz pr : Addr → Prop} {k : Kd} {xs ys : List D} {x : V} {ox : List Addr} (h : TmR G H fz pr (.v k (.tup xs)) x ox) (e : elk k xs = some ys) : ∃ a vs, x = .ref a ∧ H a = some (.tup vs) ∧ Reps G H fz ys vs := by
  cases k with
  | F =>
    simp only [TmR, Rep] at h
    obtain ⟨_, a, vs, e1, e2, h⟩ := h
    exact ⟨a, vs, e1, e2, h.elk e fun _ _ p => p⟩
  | B =>
    simp only [TmR, Rep] at h
    obtain ⟨_, a, vs, e1, e2, h⟩ := h
    exact ⟨a, vs, e1, e2, h.elk e fun z => absurd rfl z⟩
  | O =>
    simp only [TmR, RepO, Rep] at h
    obtain ⟨_, a, vs, e1, e2, h⟩ := h
    exact ⟨a, vs, e1, e2, h.elk e fun _ _ p => p⟩
def rAddA (K : PySem.W.Frag) : R2 := fun x y H Q => (rI0 (fun i j => .int (i + j)) x y H Q ∨ (∃ i j, x = .str i ∧ y = .str j ∧ i.length + j.length ≤ sizeLine ∧ Q (.str (i ++ j)) H)) ∨ (rCat x y H Q ∨ rCatA K x y H Q)
theorem op_addA {X : Cx} : OpR X (binaryOp .Add) (rAddA X.K) := (op_add.or op_add_str).or (op_cat.or op_catA)
theorem op2_add {G : Gx} {W : WX} {K : PySem.W.Frag} : Op2 G W opAdd (rAddA K) := by
  intro pr io σ s x y tx ty t ox oy Q hr hx hy e q
  cases tx <;> cases ty <;> simp only [opAdd, reduceCtorEq] at e
  rename_i k d k' d'
  have rx := TmR.toD _ _ _ hx
  have ry := TmR.toD _ _ _ hy
  cases d <;> cases d' <;> simp only [addV, reduceCtorEq] at e
  · -- ints
    cases e
    simp only [toD, Rep] at rx ry
    exact .inl (.inl ⟨_, _, rx, ry, q.done hr (by simp only [Rep])⟩)
  · split at e
    · rename_i hl
      cases e
      simp only [toD, Rep] at rx ry
      exact .inl (.inr ⟨_, _, rx, ry, hl, q.done hr (by simp only [Rep])⟩)
    · cases e
  · -- tuples
    rename_i xs ys
    split at e
    · rename_i xs' ys' e1 e2
      split at e
      · rename_i hl
        cases e
        obtain ⟨a, vs, rfl, ha, hvs⟩ := tup_items hx e1
        obtain ⟨b, ws, rfl, hb, hws⟩ := tup_items hy e2
        refine .inr (.inr ⟨a, b, vs, ws, rfl, rfl, .of ha, .of hb, by rw [← hvs.len, ← hws.len]; exact hl, fun z => ?_, fun _ z => ?_, fun _ _ p hp => q.tup hr (hvs.app hws) hp⟩)
        · subst z
          have z : xs' = [] := by have := hvs.len; simpa using this
          subst z
          exact q.done hr (by simp only [Rep, List.nil_append]; exact ⟨b, ws, rfl, hb, hws⟩)
        · subst z
          have z : ys' = [] := by have := hws.len; simpa using this
          subst z
          exact q.done hr (by simp only [Rep, List.append_nil]; exact ⟨a, vs, rfl, ha, hvs⟩)
      · cases e
    · cases e
  · rename_i xs ys
    split at e
    · rename_i xs' ys' e1 e2
      split at e
      · rename_i hl
        cases e
        obtain ⟨a, vs, rfl, ha, hvs⟩ := lst_items hx e1
        obtain ⟨b, ws, rfl, hb, hws⟩ := lst_items hy e2
        exact .inr (.inl ⟨a, b, vs, ws, rfl, rfl, ha, hb, by rw [← hvs.len, ← hws.len]; exact hl, fun p hp => q.lst hr (hvs.app hws) hp⟩)
      · cases e
    · cases e
section
variable {G : Gx} {W : WX} {ios : List Nat} {X : Cx} {a b : Expr} {pos : Pos} {ga gb : Ev}
theorem v_add (ha : PEv X G W ios a ga) (hb : PEv X G W ios b gb) : PEv X G W ios (.BinOp a .Add b pos) (eAdd ga gb) := v_op op_addA op2_add ha hb

def eSub : Ev → Ev → Ev := eOp2 (rd2 (dI2 fun i j => some (i - j)))
theorem v_sub (ha : PEv X G W ios a ga) (hb : PEv X G W ios b gb) : PEv X G W ios (.BinOp a .Sub b pos) (eSub ga gb) := v_op op_sub (Rd2.op (rdI0 fun i j k e => by cases e; rfl)) ha hb
def mulI (i j : Int) : Option Int := if (-(2 ^ 64) < i ∧ i < 2 ^ 64) ∨ (-(2 ^ 64) < j ∧ j < 2 ^ 64) then some (i * j) else none
def divI (i j : Int) : Option Int := if 0 < j ∧ j < 1073741824 then some (i / j) else none
def modI (i j : Int) : Option Int := if 0 < j then some (i % j) else none
def powI (i j : Int) : Option Int := if 0 ≤ j ∧ j ≤ 1000000 ∧ i.natAbs < 2 ^ 64 then some (i ^ j.toNat) else none
def shlI (i j : Int) : Option Int := if 0 ≤ j ∧ j ≤ 1000000 ∧ i.natAbs < 2 ^ 64 then some (i * 2 ^ j.toNat) else none
def eDiv : Ev → Ev → Ev := eOp2 (rd2 (dI2 divI))
def eMod : Ev → Ev → Ev := eOp2 (rd2 (dI2 modI))
def ePow : Ev → Ev → Ev := eOp2 (rd2 (dI2 powI))
def eShl : Ev → Ev → Ev := eOp2 (rd2 (dI2 shlI))
theorem v_div (ha : PEv X G W ios a ga) (hb : PEv X G W ios b gb) : PEv X G W ios (.BinOp a .FloorDiv b pos) (eDiv ga gb) := v_op op_fdiv (Rd2.op (rdI fun i j k e => by
  unfold divI at e
  split at e
  · rename_i h; cases e; exact ⟨h, rfl⟩
  · cases e)) ha hb
theorem v_mod (ha : PEv X G W ios a ga) (hb : PEv X G W ios b gb) : PEv X G W ios (.BinOp a .Mod b pos) (eMod ga gb) := v_op op_mod (Rd2.op (rdI fun i j k e => by
  unfold modI at e
  split at e
  · rename_i h; cases e; exact ⟨h, rfl⟩
  · cases e)) ha hb
theorem v_pow (ha : PEv X G W ios a ga) (hb : PEv X G W ios b gb) : PEv X G W ios (.BinOp a .Pow b pos) (ePow ga gb) := v_op op_pow (Rd2.op (rdI fun i j k e => by
  unfold powI at e
  split at e
  · rename_i h; cases e; exact ⟨h, rfl⟩
  · cases e)) ha hb
def eLt : Ev → Ev → Ev := eOp2 (rd2 (dC2 fun i j => decide (i < j)))
def eLe : Ev → Ev → Ev := eOp2 (rd2 (dC2 fun i j => decide (i ≤ j)))
def eGt : Ev → Ev → Ev := eOp2 (rd2 (dC2 fun i j => decide (j < i)))
def eGe : Ev → Ev → Ev := eOp2 (rd2 (dC2 fun i j => decide (j ≤ i)))
theorem v_gt (ha : PEv X G W ios a ga) (hb : PEv X G W ios b gb) : PEv X G W ios (.Compare a [.Gt] [b] pos) (eGt ga gb) := v_cmp op_gt (Rd2.op rdC) ha hb (nomark _)
end

/-- a * b: ints, a list times a number, a text times a number -/
def mulV (k : Kd) (x y : D) : Option Tm := match x, y with
  | .int i, .int j => (mulI i j).map fun n => .v .F (.int n)
  | .lst xs, .int n => match elk k xs with
    | some xs => if -(2 ^ 63) ≤ n ∧ n < 2 ^ 63 ∧ xs.length * n.toNat ≤ sizeLine then some (.v .O (.lst (List.replicate n.toNat xs).flatten)) else none
    | none => none
  | _, _ => none
def opMul (a b : Tm) : Option Tm := match a, b with
  | .v k x, .v _ y => mulV k x y
  | _, _ => none
def eMul : Ev → Ev → Ev := eOp2 opMul
theorem Reps.rep {G : Gx} {H : Hp} {P : Addr → Prop} {ds : List D} {vs : List V} (h : Reps G H P ds vs) : ∀ n, Reps G H P (List.replicate n ds).flatten (List.replicate n vs).flatten
  | 0 => by simp [Reps]
  | n + 1 => by
    rw [List.replicate_succ, List.replicate_succ, List.flatten_cons, List.flatten_cons]
    exact h.app (Reps.rep h n)
theorem op2_mul {G : Gx} {W : WX} : Op2 G W opMul (fun x y H Q => rI CMul (fun i j => .int (i * j)) x y H Q ∨ rRep x y H Q) := by
  intro pr io σ s x y tx ty t ox oy Q hr hx hy e q
  cases tx <;> cases ty <;> simp only [opMul, reduceCtorEq] at e
  rename_i k d k' d'
  have rx := TmR.toD _ _ _ hx
  have ry := TmR.toD _ _ _ hy
  cases d <;> cases d' <;> simp only [mulV, reduceCtorEq] at e
  · simp only [Option.map_eq_some_iff] at e
    obtain ⟨n, e, rfl⟩ := e
    unfold mulI at e
    split at e
    · rename_i h
      cases e
      simp only [toD, Rep] at rx ry
      exact .inl ⟨_, _, rx, ry, h, q.done hr (by simp only [Rep])⟩
    · cases e
  · rename_i xs n
    split at e
    · rename_i xs' e1
      split at e
      · rename_i hl
        cases e
        simp only [toD, Rep] at ry
        obtain ⟨a, vs, rfl, ha, hvs⟩ := lst_items hx e1
        exact .inr ⟨a, n, vs, rfl, ry, ha, hl.1, hl.2.1, by rw [← hvs.len]; exact hl.2.2, fun p hp => q.lst hr (hvs.rep _) hp⟩
      · cases e
    · cases e
theorem v_mul {G : Gx} {W : WX} {ios : List Nat} {X : Cx} {a b : Expr} {pos : Pos} {ga gb : Ev} (ha : PEv X G W ios a ga) (hb : PEv X G W ios b gb) : PEv X G W ios (.BinOp a .Mult b pos) (eMul ga gb) := v_op (op_mul.or op_rep) op2_mul ha hb

/-! ### == of data -/
mutual
def toPy : D → Option PyData
  | .non => some .none
  | .bl b => some (.bool b)
  | .int i => some (.int i)
  | .str x => some (.str x)
  | .tup xs => (toPys xs).map .tuple
  | .lst xs => (toPys xs).map .list
  | _ => none
def toPys : List D → Option (List PyData)
  | [] => some []
  | d :: ds => match toPy d, toPys ds with
    | some p, some ps => some (p :: ps)
    | _, _ => none
end
mutual
theorem Rep.dp {G : Gx} {K : PySem.W.Frag} {H : Hp} {P : Addr → Prop} : ∀ (d : D) (v : V) (p : PyData), Rep G H P d v → toPy d = some p → Dp K H v p
  | .non, v, p, h, e => by simp only [Rep] at h; simp only [toPy] at e; cases e; subst h; exact .non
  | .bl b, v, p, h, e => by simp only [Rep] at h; simp only [toPy] at e; cases e; subst h; exact .bl b
  | .int i, v, p, h, e => by simp only [Rep] at h; simp only [toPy] at e; cases e; subst h; exact .int i
  | .str x, v, p, h, e => by simp only [Rep] at h; simp only [toPy] at e; cases e; subst h; exact .str x
  | .tup xs, v, p, h, e => by
    simp only [Rep] at h; simp only [toPy, Option.map_eq_some_iff] at e
    obtain ⟨ps, e, rfl⟩ := e
    obtain ⟨a, vs, rfl, h1, h2⟩ := h
    exact .tup (.of h1) (Reps.dp xs vs ps h2 e)
  | .lst xs, v, p, h, e => by
    simp only [Rep] at h; simp only [toPy, Option.map_eq_some_iff] at e
    obtain ⟨ps, e, rfl⟩ := e
    obtain ⟨a, vs, rfl, _, h1, h2⟩ := h
    exact .lst (.of h1) (Reps.dp xs vs ps h2 e)
  | .dK ks xs, v, p, h, e => by simp [toPy] at e
  | .dT ks xs, v, p, h, e => by simp [toPy] at e
  | .ins c xs, v, p, h, e => by simp [toPy] at e
  | .scr ns, v, p, h, e => by simp [toPy] at e
  | .kt, v, p, h, e => by simp [toPy] at e
theorem Reps.dp {G : Gx} {K : PySem.W.Frag} {H : Hp} {P : Addr → Prop} : ∀ (ds : List D) (vs : List V) (ps : List PyData), Reps G H P ds vs → toPys ds = some ps → DpAll K H vs ps
  | [], vs, ps, h, e => by simp only [Reps] at h; simp only [toPys] at e; cases e; subst h; exact .nil
  | d :: ds, vs, ps, h, e => by
    simp only [Reps] at h; simp only [toPys] at e
    obtain ⟨v, r, rfl, h1, h2⟩ := h
    cases e1 : toPy d with
    | none => rw [e1] at e; cases e
    | some p =>
      cases e2 : toPys ds with
      | none => rw [e1, e2] at e; cases e
      | some ps' =>
        rw [e1, e2] at e
        cases e
        exact .cons (Rep.dp d v p h1 e1) (Reps.dp ds r ps' h2 e2)
end
def strD : D → Option Str
  | .str x => some x
  | _ => none
def eqP (neg : Bool) (x y : D) : Option D := match toPy x, toPy y with
  | some p, some q => if SeqAt.shaped p = true ∧ SeqAt.shaped q = true then some (.bl (if neg then !PyData.eqv p q else PyData.eqv p q)) else none
  | _, _ => none
def eqD (neg : Bool) (x y : D) : Option D := match strD x, strD y with
  | some a, some b => some (.bl (if neg then !decide (a = b) else decide (a = b)))
  | _, _ => eqP neg x y
theorem strD_eq {d : D} {a : Str} (h : strD d = some a) : d = .str a := by
  cases d <;> simp only [strD, Option.some.injEq, reduceCtorEq] at h
  rw [h]
def rEqA (K : PySem.W.Frag) : R2 := fun x y H Q => rEq x y H Q ∨ rEqD K x y H Q
def rNeA (K : PySem.W.Frag) : R2 := fun x y H Q => rNe x y H Q ∨ rNeD K x y H Q
theorem decV {a b : Str} : decide (V.str a = V.str b) = decide (a = b) := by simp
theorem rdEq {G : Gx} {K : PySem.W.Frag} : Rd2 G (eqD false) (rEqA K) := by
  intro H x y dx dy d Q hx hy e q
  unfold eqD at e
  split at e
  · rename_i a b e1 e2
    rw [strD_eq e1] at hx
    rw [strD_eq e2] at hy
    simp only [Rep] at hx hy
    subst hx; subst hy
    cases e
    exact .inl ⟨rfl, q _ fun P => by simp only [Rep]; rw [decV]; rfl⟩
  · unfold eqP at e
    split at e
    · rename_i p p' e1 e2
      split at e
      · rename_i hs
        cases e
        exact .inr ⟨p, p', Rep.dp _ _ _ hx e1, Rep.dp _ _ _ hy e2, hs.1, hs.2, q _ fun P => by simp only [Rep]; rfl⟩
      · cases e
    · cases e
theorem rdNe {G : Gx} {K : PySem.W.Frag} : Rd2 G (eqD true) (rNeA K) := by
  intro H x y dx dy d Q hx hy e q
  unfold eqD at e
  split at e
  · rename_i a b e1 e2
    rw [strD_eq e1] at hx
    rw [strD_eq e2] at hy
    simp only [Rep] at hx hy
    subst hx; subst hy
    cases e
    exact .inl ⟨rfl, q _ fun P => by simp only [Rep]; rw [decV]; rfl⟩
  · unfold eqP at e
    split at e
    · rename_i p p' e1 e2
      split at e
      · rename_i hs
        cases e
        exact .inr ⟨p, p', Rep.dp _ _ _ hx e1, Rep.dp _ _ _ hy e2, hs.1, hs.2, q _ fun P => by simp only [Rep]; rfl⟩
      · cases e
    · cases e
def eEq : Ev → Ev → Ev := eOp2 (rd2 (eqD false))
def eNe : Ev → Ev → Ev := eOp2 (rd2 (eqD true))
section
variable {G : Gx} {W : WX} {ios : List Nat} {X : Cx} {a b : Expr} {pos : Pos} {ga gb : Ev} {k : Nat}
theorem v_eq (hr : Room k X.A) (ha : PEv X G W ios a ga) (hb : PEv X G W ios b gb) : PEv X G W ios (.Compare a [.Eq] [b] pos) (eEq ga gb) := v_cmp (op_eq.or (op_eqD hr.units)) (Rd2.op rdEq) ha hb (nomark _)
/-! ### names, constants -/
def eVar (i : Nat) : Ev := fun ρ => match ρ[i]? with
  | some (some (.v .O d)) => .ok (.loc i) ρ
  | some (some (.v k d)) => .ok (.v k d) ρ
  | some (some t) => .ok (.loc i) ρ
  | _ => .no
theorem v_var (i : Nat) {x : Str} {pos : Pos} (hN : X.N[i]? = some x := by rfl) (hv : Vis X.env.scope x := by first | exact Or.inl rfl | exact Or.inr (Or.inl rfl) | exact Or.inr (Or.inr rfl)) (hd : (x == ("__debug__" : Str)) = false := by decide)
    (hcd : (x == ("__classdict__" : Str)) = false := by decide) : PEv X G W ios (.Name x pos) (eVar i) := by
  refine pe_imp (pe_var hN hv hd hcd) fun σ H Q q => ?_
  obtain ⟨pr, io, s, rfl, hi, r, q⟩ := of_tEv q
  have loc : ∀ t, s.ρ[i]? = some (some t) → OuP G W pr io σ s (.ok (.loc i) s.ρ) Q → tVar i σ s.H Q := fun t e q => by
    obtain ⟨v, _, _, _, e1, _, _, _⟩ := Sl.get r.sl e
    exact ⟨v, e1, q.here r (ot := []) ⟨⟨rfl, e1⟩, .nil, fun a ha => by cases ha⟩ Frs.nil⟩
  have val : ∀ k d, k ≠ .O → s.ρ[i]? = some (some (.v k d)) → OuP G W pr io σ s (.ok (.v k d) s.ρ) Q → tVar i σ s.H Q := fun k d hk e q => by
    obtain ⟨v, o1, o2, o3, e1, e2, h, _⟩ := Sl.get r.sl e
    have ho : o2 = [] := by
      cases k <;> simp only [TmR] at h
      · exact h.1
      · exact h.1
      · exact absurd rfl hk
    subst ho
    exact ⟨v, e1, q.here r (ot := []) ⟨h, .nil, fun a ha => by cases ha⟩ Frs.nil⟩
  unfold eVar at q
  cases e : s.ρ[i]? with
  | none => rw [e] at q; exact q.elim
  | some o =>
    cases o with
    | none => rw [e] at q; exact q.elim
    | some t =>
      rw [e] at q
      cases t with
      | v k d =>
        cases k with
        | O => exact loc _ e q
        | F => exact val _ _ (by decide) e q
        | B => exact val _ _ (by decide) e q
      | tp ts => exact loc _ e q
      | ls ts => exact loc _ e q
      | ob c ts => exact loc _ e q
      | loc j => exact loc _ e q
def eC (d : D) : Ev := fun ρ => .ok (.v .F d) ρ
theorem v_int {i j pos} : PEv X G W ios (.Constant (.int i) j pos) (eC (.int i)) := pe_imp pe_int fun σ H Q q => by
  obtain ⟨pr, io, s, rfl, hi, r, q⟩ := of_tEv q
  exact q.done r (by simp only [Rep])
theorem v_bl {b j pos} : PEv X G W ios (.Constant (.bool b) j pos) (eC (.bl b)) := pe_imp pe_bl fun σ H Q q => by
  obtain ⟨pr, io, s, rfl, hi, r, q⟩ := of_tEv q
  exact q.done r (by simp only [Rep])
theorem v_non {j pos} : PEv X G W ios (.Constant .none j pos) (eC .non) := pe_imp pe_non fun σ H Q q => by
  obtain ⟨pr, io, s, rfl, hi, r, q⟩ := of_tEv q
  exact q.done r (by simp only [Rep])
theorem v_str {x j pos} : PEv X G W ios (.Constant (.str x) j pos) (eC (.str x)) := pe_imp pe_str fun σ H Q q => by
  obtain ⟨pr, io, s, rfl, hi, r, q⟩ := of_tEv q
  exact q.done r (by simp only [Rep])
end
end PV

namespace PV
open PySem PySem.Spec L2
section
variable {G : Gx} {W : WX} {pr : Addr → Prop} {io : List (Nat × V)} {σ : L2.St} {s s1 : Sx} {ios : List Nat} {Q : VK} {X : Cx} {a b c : Expr} {pos : Pos} {ga gb gc : Ev}

/-! ### what is owned is shared from now on; what is owned is handed on -/
def Sx.frz (s : Sx) (ot : List Addr) (ρ : Ss) (os : List Addr) : Sx := { H := s.H, fz := fun a => s.fz a ∨ a ∈ ot, os := os, ρ := ρ }
def eF (g : Ev) : Ev := fun ρ => (g ρ).bind fun t ρ1 => match t with
  | .loc i => match ρ1[i]? with
    | some (some t0) => match frz t0 with
      | some d => .ok (.v .F d) (ρ1.set i (some (.v .F d)))
      | none => .no
    | _ => .no
  | t => match frz t with
    | some d => .ok (.v .F d) ρ1
    | none => .no
def eM (g : Ev) : Ev := fun ρ => (g ρ).bind fun t ρ1 => match t with
  | .loc i => match ρ1[i]? with
    | some (some t0) => .ok t0 (ρ1.set i none)
    | _ => .no
  | t => .ok t ρ1
/-- values in flight are shared from now on -/
theorem SR.frzO (r : SR G pr io σ s) {ot : List Addr} (own : ∀ a ∈ ot, Own s.H a) (sep : ∀ a ∈ ot, ¬ s.fz a ∧ ¬ pr a ∧ a ∉ s.os) : SR G pr io σ (s.frz ot s.ρ s.os) := by
  refine ⟨Sl.keep (fun _ h => .inl h) (fun _ h => .inr h) (Tk.refl _) (fun a o _ e => e) r.sl, r.nd, fun a ha => ⟨fun z => z.elim (r.sep a ha).1 fun z => (sep a z).2.2 ha, (r.sep a ha).2⟩, fun a h => ?_, r.iov⟩
  rcases h with (h | h) | h
  · exact r.dom a (.inl h)
  · exact (own a h).ne
  · exact r.dom a (.inr h)
theorem Ext.frzO (e : Ext s s1) {ot : List Addr} (f : Frs s ot) : Ext s (s1.frz ot s1.ρ s1.os) :=
  ⟨e.keep, e.dom, e.tk, fun a h => .inl (e.fz a h), fun a h => h.elim (e.fzo a) fun z => .inr (f a z), e.oso⟩
theorem tm_of {t : Tm} {v : V} {ot : List Addr} (h : TmT G pr σ s t v ot) (hl : ∀ i, t ≠ .loc i) : TmR G s.H s.fz pr t v ot := by
  cases t with
  | loc i => exact absurd rfl (hl i)
  | v k d => exact h
  | tp ts => exact h
  | ls ts => exact h
  | ob c ts => exact h
theorem loc_of {t : Tm} {v : V} {ot : List Addr} (h : TmR G s.H s.fz pr t v ot) : TmT G pr σ s t v ot := by
  cases t with
  | loc i => exact h.elim
  | v k d => exact h
  | tp ts => exact h
  | ls ts => exact h
  | ob c ts => exact h
theorem fz_read {H : Hp} (q : tEv G W ios (eF ga) σ H Q) : tEv G W ios ga σ H Q := by
  obtain ⟨pr, io, s, rfl, hi, r, q⟩ := of_tEv q
  refine tEv_of hi r (OuP.bind0 q fun t v s1 ot r1 x1 p1 f1 q1 => ?_)
  have temp : ∀ d, (∀ i, t ≠ .loc i) → frz t = some d → OuP G W pr io σ s (.ok (.v .F d) s1.ρ) Q → Q v s1.H := fun d hl e q => by
    refine q v (s1.frz ot s1.ρ s1.os) [] rfl (r1.frzO (fun a ha => p1.rel.own a ha) p1.sep) (x1.frzO f1) ⟨?_, .nil, fun a ha => by cases ha⟩ Frs.nil
    show TmR _ _ _ _ _ _ _
    simp only [TmR]
    exact ⟨trivial, TmR.frz _ _ _ _ (tm_of p1.rel hl) e⟩
  cases t with
  | loc i =>
    simp only at q1
    cases e : s1.ρ[i]? with
    | none => simp only [e] at q1; exact q1.elim
    | some o =>
      cases o with
      | none => simp only [e] at q1; exact q1.elim
      | some t0 =>
        simp only [e] at q1
        cases e2 : frz t0 with
        | none => simp only [e2] at q1; exact q1.elim
        | some d =>
          simp only [e2] at q1
          obtain ⟨_, hv⟩ := p1.rel
          obtain ⟨v', o1, o2, o3, e3, e4, h0, hput⟩ := Sl.get r1.sl e
          rw [hv] at e3; cases e3
          have nd := r1.nd
          rw [e4, List.nodup_append, List.nodup_append] at nd
          have hd := TmR.frz _ _ _ _ h0 e2
          have hs : Sl G s1.H (fun a => s1.fz a ∨ a ∈ o2) pr (s1.ρ.set i (some (.v .F d))) σ (o1 ++ ([] ++ o3)) :=
            hput (.v .F d) s1.H (fun a => s1.fz a ∨ a ∈ o2) [] (by simp only [TmR]; exact ⟨trivial, hd⟩) (fun a o _ e => e) (fun a h => .inl h) (Tk.refl _)
          refine q1 v (s1.frz o2 (s1.ρ.set i (some (.v .F d))) (o1 ++ ([] ++ o3))) [] rfl ⟨hs, ?_, fun a ha => ⟨fun z => ?_, ?_⟩, fun a h => ?_, r1.iov⟩ ?_ ⟨?_, .nil, fun a ha => by cases ha⟩ Frs.nil
          · show (o1 ++ ([] ++ o3)).Nodup
            rw [List.nil_append, List.nodup_append]
            exact ⟨nd.1, nd.2.1.2.1, fun a ha b hb => nd.2.2 a ha b (List.mem_append_right _ hb)⟩
          · have ha' : a ∈ o1 ∨ a ∈ o3 := by simpa [Sx.frz] using ha
            rcases z with z | z
            · exact (r1.sep a (by rw [e4]; rcases ha' with h | h <;> simp [h])).1 z
            · rcases ha' with h | h
              · exact nd.2.2 a h a (List.mem_append_left _ z) rfl
              · exact nd.2.1.2.2 a z a h rfl
          · have ha' : a ∈ o1 ∨ a ∈ o3 := by simpa [Sx.frz] using ha
            exact (r1.sep a (by rw [e4]; rcases ha' with h | h <;> simp [h])).2
          · rcases h with (h | h) | h
            · exact r1.dom a (.inl h)
            · exact (TmR.own _ _ _ h0 a h).ne
            · exact r1.dom a (.inr h)
          · refine ⟨x1.keep, x1.dom, x1.tk, fun a h => .inl (x1.fz a h), fun a h => ?_, fun a h => ?_⟩
            · rcases h with h | h
              · exact x1.fzo a h
              · exact .inr (x1.oso a (by rw [e4]; simp [h]))
            · have ha' : a ∈ o1 ∨ a ∈ o3 := by simpa [Sx.frz] using h
              exact x1.oso a (by rw [e4]; rcases ha' with h | h <;> simp [h])
          · show TmR _ _ _ _ _ _ _
            simp only [TmR]
            exact ⟨trivial, hd⟩
  | v k d =>
    simp only at q1
    cases e : frz (.v k d) with
    | none => rw [e] at q1; exact q1.elim
    | some d' => rw [e] at q1; exact temp d' (fun i z => nomatch z) e q1
  | tp ts =>
    simp only at q1
    cases e : frz (.tp ts) with
    | none => rw [e] at q1; exact q1.elim
    | some d' => rw [e] at q1; exact temp d' (fun i z => nomatch z) e q1
  | ls ts =>
    simp only at q1
    cases e : frz (.ls ts) with
    | none => rw [e] at q1; exact q1.elim
    | some d' => rw [e] at q1; exact temp d' (fun i z => nomatch z) e q1
  | ob c ts =>
    simp only at q1
    cases e : frz (.ob c ts) with
    | none => rw [e] at q1; exact q1.elim
    | some d' => rw [e] at q1; exact temp d' (fun i z => nomatch z) e q1
theorem v_fz (ha : PEv X G W ios a ga) : PEv X G W ios a (eF ga) := pe_imp ha fun _ _ _ q => fz_read q
theorem v_mv (ha : PEv X G W ios a ga) : PEv X G W ios a (eM ga) := pe_imp ha fun σ H Q q => by
  obtain ⟨pr, io, s, rfl, hi, r, q⟩ := of_tEv q
  refine tEv_of hi r (OuP.bind0 q fun t v s1 ot r1 x1 p1 f1 q1 => ?_)
  cases t with
  | loc i =>
    simp only at q1
    cases e : s1.ρ[i]? with
    | none => simp only [e] at q1; exact q1.elim
    | some o =>
      cases o with
      | none => simp only [e] at q1; exact q1.elim
      | some t0 =>
        simp only [e] at q1
        obtain ⟨_, hv⟩ := p1.rel
        obtain ⟨v', o1, o2, o3, e3, e4, h0, hs⟩ := Sl.drop r1.sl e
        rw [hv] at e3; cases e3
        have nd := r1.nd
        rw [e4, List.nodup_append, List.nodup_append] at nd
        refine q1 v { s1 with ρ := s1.ρ.set i none, os := o1 ++ o3 } o2 rfl ⟨hs, ?_, fun a ha => ?_, r1.dom, r1.iov⟩ ?_ ⟨loc_of h0, nd.2.1.1, fun a ha => ?_⟩ fun a ha => ?_
        · show (o1 ++ o3).Nodup
          rw [List.nodup_append]
          exact ⟨nd.1, nd.2.1.2.1, fun a ha b hb => nd.2.2 a ha b (List.mem_append_right _ hb)⟩
        · have ha' : a ∈ o1 ∨ a ∈ o3 := by simpa using ha
          exact r1.sep a (by rw [e4]; rcases ha' with h | h <;> simp [h])
        · refine ⟨x1.keep, x1.dom, x1.tk, x1.fz, x1.fzo, fun a h => ?_⟩
          have ha' : a ∈ o1 ∨ a ∈ o3 := by simpa using h
          exact x1.oso a (by rw [e4]; rcases ha' with h | h <;> simp [h])
        · have := r1.sep a (by rw [e4]; simp [ha])
          refine ⟨this.1, this.2, fun z => ?_⟩
          have ha' : a ∈ o1 ∨ a ∈ o3 := by simpa using z
          rcases ha' with h | h
          · exact nd.2.2 a h a (List.mem_append_left _ ha) rfl
          · exact nd.2.1.2.2 a ha a h rfl
        · exact x1.oso a (by rw [e4]; simp [ha])
  | v k d => exact q1 v s1 ot rfl r1 x1 p1 f1
  | tp ts => exact q1 v s1 ot rfl r1 x1 p1 f1
  | ls ts => exact q1 v s1 ot rfl r1 x1 p1 f1
  | ob c ts => exact q1 v s1 ot rfl r1 x1 p1 f1

/-! ### tests -/
abbrev PTv (X : Cx) (G : Gx) (W : WX) (ios : List Nat) (x : Expr) (g : Ev) : Prop := PT X x (tTest (tEv G W ios g))
theorem t_cmp {op : CmpOp} {r : R2} {f : Tm → Tm → Option Tm} (ho : OpR X (compareOp op) r) (h : Op2 G W f r) (ha : PEv X G W ios a ga) (hb : PEv X G W ios b gb) (hm : behindInMarks op b = false) : PTv X G W ios (.Compare a [op] [b] pos) (eOp2 f ga gb) :=
  pt_imp (pt_cmpR ho ha hb hm) fun σ H Q q => op2_end h q
theorem t_val (ha : PEv X G W ios a ga) (he : ∀ whole, isTrue a X.env whole = (do let v ← whole; standAt a.pos; holding [v] (truthy v)) := by intro _; rfl) : PTv X G W ios a ga := pt_val ha he
/-- a bool in flight -/
def asB : Tm → Option Bool
  | .v _ (.bl b) => some b
  | _ => none
theorem asB_of {t : Tm} {v : V} {ot : List Addr} {x : Bool} (p : Tp G pr σ s t v ot) (e : asB t = some x) : v = .bl x := by
  have h := p.rel
  cases t with
  | v k d =>
    cases d <;> simp only [asB, reduceCtorEq, Option.some.injEq] at e
    subst e
    cases k <;> simp only [TmT, TmR, Rep, RepO] at h <;> exact h.2
  | loc i => simp [asB] at e
  | tp ts => simp [asB] at e
  | ls ts => simp [asB] at e
  | ob c ts => simp [asB] at e
def eNot (g : Ev) : Ev := fun ρ => (g ρ).bind fun t ρ1 => match asB t with
  | some b => .ok (.v .F (.bl (!b))) ρ1
  | none => .no
def eAnd (ga gb : Ev) : Ev := fun ρ => (ga ρ).bind fun t ρ1 => match asB t with
  | some true => gb ρ1
  | some false => .ok (.v .F (.bl false)) ρ1
  | none => .no
def eOr (ga gb : Ev) : Ev := fun ρ => (ga ρ).bind fun t ρ1 => match asB t with
  | some true => .ok (.v .F (.bl true)) ρ1
  | some false => gb ρ1
  | none => .no
def eIf (gc ga gb : Ev) : Ev := fun ρ => (gc ρ).bind fun t ρ1 => match asB t with
  | some true => ga ρ1
  | some false => gb ρ1
  | none => .no
/-- a test's reading -/
theorem tTest_of {g : Ev} {k : Bool → Ss → Ou} {Q : VK} (hi : io.map Prod.fst = ios) (r : SR G pr io σ s) {R : Bool → Hp → Prop}
    (q : OuP G W pr io σ s ((g s.ρ).bind fun t ρ1 => match asB t with | some b => k b ρ1 | none => .no) Q) (h : ∀ b s1, SR G pr io σ s1 → Ext s s1 → OuP G W pr io σ s1 (k b s1.ρ) Q → R b s1.H) : tTest (tEv G W ios g) σ s.H R := by
  refine tEv_of hi r (OuP.bind q fun t v s1 ot r1 x1 p1 f1 q1 => ?_)
  cases e : asB t with
  | none => rw [e] at q1; exact q1.elim
  | some b =>
    rw [e] at q1
    exact ⟨b, asB_of p1 e, h b s1 r1 x1 q1⟩
theorem OuP.isB (r : SR G pr io σ s) {x : Bool} {R : Bool → Hp → Prop} (q : OuP G W pr io σ s (.ok (.v .F (.bl x)) s.ρ) fun v H => ∃ k, v = .bl k ∧ R k H) : R x s.H := by
  obtain ⟨k, e, h⟩ := q.done (v := .bl x) r (by simp only [Rep])
  cases e
  exact h
theorem t_not (ha : PTv X G W ios a ga) : PTv X G W ios (.UnaryOp .Not a pos) (eNot ga) := pt_imp (pt_not ha) fun σ H Q q => by
  obtain ⟨pr, io, s, rfl, hi, r, q⟩ := of_tEv q
  exact tTest_of hi r (k := fun b ρ1 => .ok (.v .F (.bl (!b))) ρ1) q fun b s1 r1 x1 q1 => q1.isB r1
theorem match_eta (o : Option Bool) (A B : Ou) : (match o with | some true => A | some false => B | none => Ou.no) = (match o with | some b => (if b = true then A else B) | none => Ou.no) := by
  cases o with
  | none => rfl
  | some b => cases b <;> rfl
theorem t_or {rest : List Expr} (ha : PTv X G W ios a ga) (hb : PW X (.BoolOp .Or (b :: rest) pos) (tTest (tEv G W ios gb))) : PW X (.BoolOp .Or (a :: b :: rest) pos) (tTest (tEv G W ios (eOr ga gb))) := by
  refine ⟨fun wh pins s σ H Q I q => (pw_or ha hb).run wh pins s σ H Q I ?_⟩
  obtain ⟨pr, io, s, rfl, hi, r, q⟩ := of_tEv q
  refine tTest_of hi r (k := fun b ρ1 => if b = true then .ok (.v .F (.bl true)) ρ1 else gb ρ1) (by simpa only [eOr, match_eta] using q) fun b s1 r1 x1 q1 => ?_
  cases b with
  | true => exact iteT (q1.isB r1)
  | false => exact iteF (tEv_of hi r1 q1)
theorem t_or1 (ha : PTv X G W ios a ga) : PW X (.BoolOp .Or [a] pos) (tTest (tEv G W ios ga)) := pw_or1 ha
theorem v_ifx (hc : PTv X G W ios c gc) (ha : PEv X G W ios a ga) (hb : PEv X G W ios b gb) : PEv X G W ios (.IfExp c a b pos) (eIf gc ga gb) := pe_imp (pe_ifExp hc ha hb) fun σ H Q q => by
  obtain ⟨pr, io, s, rfl, hi, r, q⟩ := of_tEv q
  refine tTest_of hi r (k := fun b ρ1 => if b = true then ga ρ1 else gb ρ1) (by simpa only [eIf, match_eta] using q) fun b s1 r1 x1 q1 => ?_
  cases b with
  | true => exact iteT (tEv_of hi r1 q1)
  | false => exact iteF (tEv_of hi r1 q1)
/-- as values -/
theorem asB_val {g : Ev} {k : Bool → Ss → Ou} {Q : VK} (hi : io.map Prod.fst = ios) (r : SR G pr io σ s) {R : Bool → Hp → Prop}
    (q : OuP G W pr io σ s ((g s.ρ).bind fun t ρ1 => match asB t with | some b => k b ρ1 | none => .no) Q) (h : ∀ b s1, SR G pr io σ s1 → Ext s s1 → OuP G W pr io σ s1 (k b s1.ρ) Q → R b s1.H) : tEv G W ios g σ s.H fun x H1 => ∃ c, x = .bl c ∧ R c H1 := tTest_of hi r q h
theorem v_not (ha : PEv X G W ios a ga) : PEv X G W ios (.UnaryOp .Not a pos) (eNot ga) := pe_imp (pe_not ha) fun σ H Q q => by
  obtain ⟨pr, io, s, rfl, hi, r, q⟩ := of_tEv q
  exact asB_val hi r (k := fun b ρ1 => .ok (.v .F (.bl (!b))) ρ1) (R := fun c H1 => Q (.bl (!c)) H1) q fun b s1 r1 x1 q1 => q1.done r1 (by simp only [Rep])
theorem v_and {rest : List Expr} (ha : PEv X G W ios a ga) (hb : PEv X G W ios (.BoolOp .And (b :: rest) pos) gb) : PEv X G W ios (.BoolOp .And (a :: b :: rest) pos) (eAnd ga gb) := pe_imp (pe_and ha hb) fun σ H Q q => by
  obtain ⟨pr, io, s, rfl, hi, r, q⟩ := of_tEv q
  refine asB_val hi r (k := fun b ρ1 => if b = true then gb ρ1 else .ok (.v .F (.bl false)) ρ1) (R := fun c H1 => if c = true then tEv G W ios gb σ H1 Q else Q (.bl false) H1) (by simpa only [eAnd, match_eta] using q) fun b s1 r1 x1 q1 => ?_
  cases b with
  | true => exact iteT (tEv_of hi r1 q1)
  | false => exact iteF (q1.done r1 (by simp only [Rep]))
theorem v_bop1 {op : BoolOp} (ha : PEv X G W ios a ga) : PEv X G W ios (.BoolOp op [a] pos) ga := pe_one ha

/-! ### is None -/
def isNon : D → Bool
  | .non => true
  | _ => false
theorem isNon_rep {H : Hp} {P : Addr → Prop} {d : D} {v : V} (h : Rep G H P d v) : decide (v = .non) = isNon d := by
  cases d <;> simp only [Rep] at h
  · subst h; rfl
  · subst h; rfl
  · subst h; rfl
  · subst h; rfl
  · obtain ⟨a, _, rfl, _⟩ := h; rfl
  · obtain ⟨a, _, rfl, _⟩ := h; rfl
  · obtain ⟨a, _, rfl, _⟩ := h; rfl
  · obtain ⟨a, _, _, _, rfl, _⟩ := h; rfl
  · obtain ⟨a, _, _, rfl, _⟩ := h; rfl
  · obtain ⟨a, rfl, _⟩ := h; rfl
  · obtain ⟨a, rfl, _⟩ := h; rfl
def eIsN : Ev → Ev → Ev := eOp2 (rd2 fun x y => if isNon y = true then some (.bl (isNon x)) else none)
def eNotN : Ev → Ev → Ev := eOp2 (rd2 fun x y => if isNon y = true then some (.bl (!isNon x)) else none)
theorem isNon_v {H : Hp} {P : Addr → Prop} {d : D} {v : V} (h : Rep G H P d v) (e : isNon d = true) : v = .non := by
  rw [← isNon_rep h] at e
  exact of_decide_eq_true e
theorem rdIsN : Rd2 G (fun x y => if isNon y = true then some (.bl (isNon x)) else none) (fun x y H Q => y = .non ∧ Q (.bl (decide (x = .non))) H) := by
  intro H x y dx dy d Q hx hy e q
  simp only at e
  split at e
  · rename_i h
    cases e
    exact ⟨isNon_v hy h, q _ fun P => by simp only [Rep]; rw [isNon_rep hx]⟩
  · cases e
theorem rdNotN : Rd2 G (fun x y => if isNon y = true then some (.bl (!isNon x)) else none) (fun x y H Q => y = .non ∧ Q (.bl (!decide (x = .non))) H) := by
  intro H x y dx dy d Q hx hy e q
  simp only at e
  split at e
  · rename_i h
    cases e
    exact ⟨isNon_v hy h, q _ fun P => by simp only [Rep]; rw [isNon_rep hx]⟩
  · cases e
/-! ### argument lists, displays -/
def gNil : Ss → OuL := fun ρ => .ok [] ρ
def gCons (g : Ev) (gs : Ss → OuL) : Ss → OuL := fun ρ => (g ρ).bindL fun t ρ1 => (gs ρ1).bindL fun ts ρ2 => .ok (t :: ts) ρ2
theorem TmTs.own {ts : List Tm} {vs : List V} {ot : List Addr} (h : TmTs G pr σ s ts vs ot) : ∀ a ∈ ot, Own s.H a := by
  induction ts generalizing vs ot with
  | nil => obtain ⟨_, rfl⟩ := h; intro a ha; cases ha
  | cons t ts ih =>
    obtain ⟨v, r, o1, o2, rfl, rfl, h1, h2⟩ := h
    intro a ha
    rcases List.mem_append.mp ha with ha | ha
    · exact h1.own a ha
    · exact ih h2 a ha
theorem va_nil : PAv X G W ios [] gNil := pa_imp pa_nil fun σ H Q q => by
  obtain ⟨pr, io, s, rfl, hi, r, q⟩ := of_tEvs q
  exact q [] s [] rfl r (Ext.refl s) ⟨⟨rfl, rfl⟩, .nil, fun a ha => by cases ha⟩ Frs.nil
theorem Tps.cons {t : Tm} {ts : List Tm} {v : V} {vs : List V} {o1 o2 : List Addr} {s2 : Sx} (p1 : Tp G pr σ s1 t v o1) (r1 : SR G pr io σ s1) (x2 : Ext s1 s2) (p2 : Tps G pr σ s2 ts vs o2) (f2 : Frs s1 o2) : Tps G pr σ s2 (t :: ts) (v :: vs) (o1 ++ o2) := by
  have p1' := p1.on r1 x2
  refine ⟨⟨v, vs, o1, o2, rfl, rfl, p1'.rel, p2.rel⟩, ?_, fun a ha => ?_⟩
  · rw [List.nodup_append]
    exact ⟨p1.nd, p2.nd, fun a ha b hb e => by subst e; exact p1.apart f2 a ha hb⟩
  · rcases List.mem_append.mp ha with ha | ha
    · exact p1'.sep a ha
    · exact p2.sep a ha
theorem Frs.app {o1 o2 : List Addr} (f1 : Frs s o1) (f2 : Frs s o2) : Frs s (o1 ++ o2) := fun a ha => (List.mem_append.mp ha).elim (f1 a) (f2 a)
theorem va_cons {e : Expr} {es : List Expr} {gs : Ss → OuL} (ha : PEv X G W ios e ga) (hr : PAv X G W ios es gs) (hs : starEach (e :: es) X.env = (false, eval e X.env) :: starEach es X.env := by rfl) : PAv X G W ios (e :: es) (gCons ga gs) := pa_imp (pa_cons ha hr hs) fun σ H Q q => by
  obtain ⟨pr, io, s, rfl, hi, r, q⟩ := of_tEvs q
  refine tEv_of hi r (OuP.bindLG (Ext.refl s) q fun t v s1 o1 r1 x1 p1 f1 q1 => ?_)
  refine tEvs_of hi r1 (OuLP.bindLG x1 q1 fun ts vs s2 o2 r2 x2 p2 f2 q2 => ?_)
  exact q2 (v :: vs) s2 (o1 ++ o2) rfl r2 (x1.trans x2) (Tps.cons p1 r1 x2 p2 f2) (f1.app (f2.on x1))
/-- frozen: all values of a list in flight -/
theorem TmTs.frz : ∀ {ts : List Tm} {vs : List V} {ot : List Addr} {ds : List D}, TmTs G pr σ s ts vs ot → PV.frzs ts = some ds → Reps G s.H (fun a => s.fz a ∨ a ∈ ot) ds vs
  | [], vs, ot, ds, h, e => by obtain ⟨rfl, _⟩ := h; simp only [PV.frzs, Option.some.injEq] at e; subst e; simp only [Reps]
  | t :: ts, vs, ot, ds, h, e => by
    obtain ⟨v, r, o1, o2, rfl, rfl, h1, h2⟩ := h
    simp only [PV.frzs] at e
    cases e1 : PV.frz t with
    | none => rw [e1] at e; cases e
    | some d =>
      cases e2 : PV.frzs ts with
      | none => rw [e1, e2] at e; cases e
      | some ds' =>
        rw [e1, e2] at e
        cases e
        have hl : ∀ i, t ≠ .loc i := fun i z => by subst z; simp [PV.frz] at e1
        simp only [Reps]
        exact ⟨v, r, rfl, (TmR.frz _ _ _ _ (tm_of h1 hl) e1).mono fun a p => p.elim .inl fun z => .inr (List.mem_append_left _ z), (TmTs.frz h2 e2).mono fun a p => p.elim .inl fun z => .inr (List.mem_append_right _ z)⟩
def eTup (gs : Ss → OuL) : Ev := fun ρ => (gs ρ).bind fun ts ρ1 => match frzs ts with
  | some ds => if ds.length ≤ sizeLine then .ok (.v .F (.tup ds)) ρ1 else .no
  | none => .no
def eLst (gs : Ss → OuL) : Ev := fun ρ => (gs ρ).bind fun ts ρ1 => match frzs ts with
  | some ds => if ds.length ≤ sizeLine then .ok (.v .O (.lst ds)) ρ1 else .no
  | none => .no
/-- own parts in a tuple, in a list -/
def eTpO (gs : Ss → OuL) : Ev := fun ρ => (gs ρ).bind fun ts ρ1 => if ts.length ≤ sizeLine ∧ (ts.all fun t => match t with | .loc _ => false | _ => true) = true then .ok (.tp ts) ρ1 else .no
def eLsO (gs : Ss → OuL) : Ev := fun ρ => (gs ρ).bind fun ts ρ1 => if ts.length ≤ sizeLine ∧ (ts.all fun t => match t with | .loc _ => false | _ => true) = true then .ok (.ls ts) ρ1 else .no
variable {es : List Expr} {gs : Ss → OuL}
theorem v_tup {x1} (h : PAv X G W ios es gs) : PEv X G W ios (.Tuple es x1 pos) (eTup gs) := pe_imp (pe_tup h) fun σ H Q q => by
  obtain ⟨pr, io, s, rfl, hi, r, q⟩ := of_tEv q
  refine tEvs_of hi r (OuLP.bind0 q fun ts vs s1 ot r1 x1 p1 f1 q1 => ?_)
  cases e : frzs ts with
  | none => rw [e] at q1; exact q1.elim
  | some ds =>
    rw [e] at q1
    simp only at q1
    split at q1
    · rename_i hl
      have hd := p1.rel.frz e
      have r2 := r1.frzO (ot := ot) p1.rel.own p1.sep
      have x2 := x1.frzO f1
      exact ⟨by rw [← hd.len]; exact hl, fun p hp => OuP.tup (s := s1.frz ot s1.ρ s1.os) (OuP.later q1 x2) r2 hd hp⟩
    · exact q1.elim
theorem v_lst (h : PAv X G W ios es gs) : PEv X G W ios (.List es pos) (eLst gs) := pe_imp (pe_lst h) fun σ H Q q => by
  obtain ⟨pr, io, s, rfl, hi, r, q⟩ := of_tEv q
  refine tEvs_of hi r (OuLP.bind0 q fun ts vs s1 ot r1 x1 p1 f1 q1 => ?_)
  cases e : frzs ts with
  | none => rw [e] at q1; exact q1.elim
  | some ds =>
    rw [e] at q1
    simp only at q1
    split at q1
    · rename_i hl
      have hd := p1.rel.frz e
      have r2 := r1.frzO (ot := ot) p1.rel.own p1.sep
      have x2 := x1.frzO f1
      exact ⟨by rw [← hd.len]; exact hl, fun p hp => OuP.lst (s := s1.frz ot s1.ρ s1.os) (OuP.later q1 x2) r2 hd hp⟩
    · exact q1.elim
theorem TmTs.tm : ∀ {ts : List Tm} {vs : List V} {ot : List Addr}, TmTs G pr σ s ts vs ot → (ts.all fun t => match t with | .loc _ => false | _ => true) = true → TmRs G s.H s.fz pr ts vs ot
  | [], vs, ot, h, e => by simp only [TmRs]; exact h
  | t :: ts, vs, ot, h, e => by
    obtain ⟨v, r, o1, o2, rfl, rfl, h1, h2⟩ := h
    rw [List.all_cons, Bool.and_eq_true] at e
    simp only [TmRs]
    exact ⟨v, r, o1, o2, rfl, rfl, tm_of h1 fun i z => by subst z; simp at e, TmTs.tm h2 e.2⟩
theorem TmRs.len {H : Hp} {fz : Addr → Prop} : ∀ {ts : List Tm} {vs : List V} {ot : List Addr}, TmRs G H fz pr ts vs ot → ts.length = vs.length
  | [], vs, ot, h => by simp only [TmRs] at h; rw [h.1]; rfl
  | t :: ts, vs, ot, h => by simp only [TmRs] at h; obtain ⟨v, r, o1, o2, rfl, rfl, h1, h2⟩ := h; simp [TmRs.len h2]
end
end PV

namespace PV
open PySem PySem.Spec L2
section
variable {G : Gx} {W : WX} {pr : Addr → Prop} {io : List (Nat × V)} {σ : L2.St} {s s1 : Sx} {ios : List Nat} {Q : VK} {X : Cx} {a b c : Expr} {pos p : Pos} {ga gb gc : Ev} {x : Str}

/-! ### a[b] -/
def subK (k : Kd) (d : D) : Tm := match k with
  | .B => .v .B d
  | _ => .v .F d
def idxV (k : Kd) (x y : D) : Option Tm := match x, y with
  | .lst xs, .int i => (atI xs i).map (subK k)
  | .tup xs, .int i => (atI xs i).map (subK k)
  | .scr ns, .int i => (atI ns i).map fun n => .v .F (.int n)
  | .str z, .int i => if z.length ≤ sizeLine then (atI z.cps.toList i).map fun c => .v .F (.str ⟨#[c]⟩) else none
  | _, _ => none
def opIdx (a b : Tm) : Option Tm := match a, b with
  | .v k x, .v _ y => idxV k x y
  | _, _ => none
def eIdx : Ev → Ev → Ev := eOp2 opIdx
theorem Reps.atI {H : Hp} {P : Addr → Prop} {ds : List D} {vs : List V} {i : Int} {d : D} (h : Reps G H P ds vs) (e : L2.atI ds i = some d) : ∃ v, L2.atI vs i = some v ∧ Rep G H P d v := by
  unfold L2.atI at e ⊢
  rw [← h.len]
  cases q : ixN ds.length i with
  | none => rw [q] at e; cases e
  | some j =>
    rw [q] at e
    exact h.get e
/-- the part of a value -/
theorem OuP.sub {k : Kd} {d : D} {v : V} (h : OuP G W pr io σ s (.ok (subK k d) s.ρ) Q) (r : SR G pr io σ s) (hd : Rep G s.H (if k = .B then fun a => s.fz a ∨ pr a else s.fz) d v) : Q v s.H := by
  cases k with
  | F => exact h.done r (by simpa using hd)
  | O => exact h.done r (by simpa using hd)
  | B =>
    refine h.here r (ot := []) ⟨?_, .nil, fun a ha => by cases ha⟩ Frs.nil
    show TmR G s.H s.fz pr (.v .B d) v []
    simp only [TmR]
    exact ⟨trivial, by simpa using hd⟩
theorem lst_all {H : Hp} {fz : Addr → Prop} {k : Kd} {xs : List D} {x : V} {ox : List Addr} (h : TmR G H fz pr (.v k (.lst xs)) x ox) : ∃ a vs, x = .ref a ∧ H a = some (.lst vs) ∧ Reps G H (if k = .B then fun a => fz a ∨ pr a else fz) xs vs := by
  cases k with
  | F => simp only [TmR, Rep] at h; obtain ⟨_, a, vs, e1, _, e2, h⟩ := h; exact ⟨a, vs, e1, e2, by simpa using h⟩
  | B => simp only [TmR, Rep] at h; obtain ⟨_, a, vs, e1, _, e2, h⟩ := h; exact ⟨a, vs, e1, e2, by simpa using h⟩
  | O => simp only [TmR, RepO] at h; obtain ⟨a, vs, e1, _, e2, h⟩ := h; exact ⟨a, vs, e1, e2, by simpa using h⟩
theorem tup_all {H : Hp} {fz : Addr → Prop} {k : Kd} {xs : List D} {x : V} {ox : List Addr} (h : TmR G H fz pr (.v k (.tup xs)) x ox) : ∃ a vs, x = .ref a ∧ H a = some (.tup vs) ∧ Reps G H (if k = .B then fun a => fz a ∨ pr a else fz) xs vs := by
  cases k with
  | F => simp only [TmR, Rep] at h; obtain ⟨_, a, vs, e1, e2, h⟩ := h; exact ⟨a, vs, e1, e2, by simpa using h⟩
  | B => simp only [TmR, Rep] at h; obtain ⟨_, a, vs, e1, e2, h⟩ := h; exact ⟨a, vs, e1, e2, by simpa using h⟩
  | O => simp only [TmR, RepO, Rep] at h; obtain ⟨_, a, vs, e1, e2, h⟩ := h; exact ⟨a, vs, e1, e2, by simpa using h⟩
theorem op2_idx {K : PySem.W.Frag} (hK : G.K = K) : Op2 G W opIdx (rIx K) := by
  intro pr io σ s x y tx ty t ox oy Q hr hx hy e q
  cases tx <;> cases ty <;> simp only [opIdx, reduceCtorEq] at e
  rename_i k d k' d'
  have ry := TmR.toD _ _ _ hy
  cases d <;> cases d' <;> simp only [idxV, reduceCtorEq, Option.map_eq_some_iff] at e <;> simp only [toD, Rep] at ry
  · rename_i z i
    split at e
    · rename_i hl
      simp only [Option.map_eq_some_iff] at e
      obtain ⟨c, e, rfl⟩ := e
      have rx := TmR.toD _ _ _ hx
      simp only [toD, Rep] at rx
      exact .inr (.inr ⟨z, i, c, rx, ry, hl, e, q.done hr (by simp only [Rep])⟩)
    · cases e
  · obtain ⟨d0, e, rfl⟩ := e
    obtain ⟨a, vs, rfl, ha, hvs⟩ := tup_all hx
    obtain ⟨v, hv, hd⟩ := hvs.atI e
    exact .inr (.inl ⟨a, vs, _, v, rfl, ry, .of ha, hv, q.sub hr hd⟩)
  · obtain ⟨d0, e, rfl⟩ := e
    obtain ⟨a, vs, rfl, ha, hvs⟩ := lst_all hx
    obtain ⟨v, hv, hd⟩ := hvs.atI e
    exact .inl ⟨a, vs, _, v, rfl, ry, .of ha, hv, q.sub hr hd⟩
  · obtain ⟨n, e, rfl⟩ := e
    have rx := TmR.toD _ _ _ hx
    simp only [toD, Rep] at rx
    obtain ⟨a, rfl, ha⟩ := rx
    refine .inl ⟨a, _, _, .int n, rfl, ry, hK ▸ ha.sq, ?_, q.done hr (by simp only [Rep])⟩
    unfold L2.atI at e ⊢
    rw [List.length_map]
    rename_i ns i
    cases h : ixN ns.length i with
    | none => rw [h] at e; cases e
    | some j =>
      rw [h] at e
      have e' : ns[j]? = some n := e
      show (ns.map V.int)[j]? = some (V.int n)
      rw [List.getElem?_map, e']
      rfl
theorem v_idx (hK : G.K = X.K) (ha : PEv X G W ios a ga) (hb : PEv X G W ios b gb) (hs : PlainIx b := by exact fun _ _ => rfl) : PEv X G W ios (.Subscript a b pos) (eIdx ga gb) := v_ix ix_seq (op2_idx hK) ha hb hs

/-! ### a[lo:hi] -/
def cutD {α : Type} (xs : List α) (lo hi : Option Int) : List α := (xs.drop (HT.sIx xs.length 0 lo)).take (HT.sIx xs.length xs.length hi - HT.sIx xs.length 0 lo)
def asI : Tm → Option Int
  | .v _ (.int i) => some i
  | _ => none
theorem asI_of {t : Tm} {v : V} {ot : List Addr} {i : Int} (p : Tp G pr σ s t v ot) (e : asI t = some i) : v = .int i := by
  have h := p.rel
  cases t with
  | v k d =>
    cases d <;> simp only [asI, reduceCtorEq, Option.some.injEq] at e
    subst e
    cases k <;> simp only [TmT, TmR, Rep, RepO] at h <;> exact h.2
  | loc i => simp [asI] at e
  | tp ts => simp [asI] at e
  | ls ts => simp [asI] at e
  | ob c ts => simp [asI] at e
def slV (k : Kd) (x : D) (l h : Option Int) : Option Tm := match x with
  | .lst xs => (elk k xs).map fun xs => .v .O (.lst (cutD xs l h))
  | .tup xs => some (subK k (.tup (cutD xs l h)))
  | .str z => if z.length ≤ sizeLine then some (.v .F (.str (cutS z l h))) else none
  | _ => none
def opSl (a : Tm) (l h : Option Int) : Option Tm := match a with
  | .v k x => slV k x l h
  | _ => none
def evO (g : Option Ev) (ρ : Ss) (k : Option Int → Ss → Ou) : Ou := match g with
  | none => k none ρ
  | some g => (g ρ).bind fun t ρ1 => match asI t with
    | some i => k (some i) ρ1
    | none => .no
def eSl (ga : Ev) (gl gh : Option Ev) : Ev := fun ρ => (ga ρ).bind fun t ρ1 => evO gl ρ1 fun l ρ2 => evO gh ρ2 fun h ρ3 => match derT ρ3 t with
  | some u => match opSl u l h with
    | some r => .ok r ρ3
    | none => .no
  | none => .no
/-- an optional bound's reading -/
def tPO (G : Gx) (W : WX) (ios : List Nat) : Option Ev → TO
  | none => tNoPart
  | some g => tPart (tEv G W ios g)
def POv (X : Cx) (G : Gx) (W : WX) (ios : List Nat) (e : Option Expr) (g : Option Ev) : Prop := PO X e (tPO G W ios g)
theorem vo_none : POv X G W ios none none := po_none
theorem vo_some (ha : PEv X G W ios a ga) : POv X G W ios (some a) (some ga) := po_some ha
theorem evO_read {g : Option Ev} {k : Option Int → Ss → Ou} {Q : VK} (hi : io.map Prod.fst = ios) (r : SR G pr io σ s) {R : Option Int → Hp → Prop} (q : OuP G W pr io σ s (evO g s.ρ k) Q)
    (h : ∀ i s1, SR G pr io σ s1 → Ext s s1 → OuP G W pr io σ s1 (k i s1.ρ) Q → R i s1.H) : tPO G W ios g σ s.H R := by
  cases g with
  | none => exact h none s r (Ext.refl s) q
  | some g =>
    show tEv G W ios g σ s.H (fun x H1 => ∃ i, x = .int i ∧ R (some i) H1)
    refine tEv_of hi r (OuP.bind q fun t v s1 ot r1 x1 p1 f1 q1 => ?_)
    cases e : asI t with
    | none => rw [e] at q1; exact q1.elim
    | some i =>
      rw [e] at q1
      exact ⟨i, asI_of p1 e, h (some i) s1 r1 x1 q1⟩
theorem cut_reps {H : Hp} {P : Addr → Prop} {ds : List D} {vs : List V} {l h : Option Int} (r : Reps G H P ds vs) : Reps G H P (cutD ds l h) (cutV vs l h) := by
  unfold cutD cutV
  rw [← r.len]
  exact (r.drop _).take _
theorem v_sl {lo hi : Option Expr} {gl gh : Option Ev} {p2 : Pos} (ha : PEv X G W ios a ga) (hl : POv X G W ios lo gl) (hh : POv X G W ios hi gh) : PEv X G W ios (.Subscript a (.Slice lo hi none p2) pos) (eSl ga gl gh) := pe_imp (pe_slice (sl_list.or (sl_tupA.or sl_str)) ha hl hh) fun σ H Q q => by
  obtain ⟨pr, io, s, rfl, hio, r, q⟩ := of_tEv q
  refine tEv_of hio r (OuP.bind q fun t v s1 ot r1 x1 p1 f1 q1 => ?_)
  refine evO_read hio r1 q1 fun l s2 r2 x2 q2 => ?_
  refine evO_read hio r2 q2 fun h s3 r3 x3 q3 => ?_
  have p3 := (p1.on r1 x2).on r2 x3
  cases e : derT s3.ρ t with
  | none => rw [e] at q3; exact q3.elim
  | some u =>
    rw [e] at q3
    obtain ⟨o, hu⟩ := p3.der r3 e
    cases u with
    | v k d =>
      simp only [opSl] at q3
      cases d <;> simp only [slV] at q3
      case str z =>
        split at q3
        · rename_i w e2
          split at e2
          · rename_i hz
            cases e2
            have hx := TmR.toD _ _ _ hu
            simp only [toD, Rep] at hx
            exact .inr (.inr ⟨z, hx, hz, q3.done r3 (by simp only [Rep])⟩)
          · cases e2
        · exact q3.elim
      case tup xs =>
        obtain ⟨a, vs, rfl, h1, h2⟩ := tup_all hu
        refine .inr (.inl ⟨a, vs, rfl, .of h1, fun hw => ?_, fun hw p hp => ?_⟩)
        · refine q3.sub r3 ?_
          simp only [Rep]
          have e3 : cutD xs l h = xs := by
            unfold cutD
            rw [← h2.len] at hw
            rw [hw.1, hw.2]
            simp
          rw [e3]
          exact ⟨a, vs, rfl, h1, h2⟩
        · have hk : TmR G (upd s3.H p (.tup (cutV vs l h))) s3.fz pr (subK k (.tup (cutD xs l h))) (.ref p) [] := by
            have kp : Reps G (upd s3.H p (.tup (cutV vs l h))) (if k = .B then fun a => s3.fz a ∨ pr a else s3.fz) (cutD xs l h) (cutV vs l h) := Reps.keep (fun _ z => z) (fun a o _ e => by show upd _ _ _ _ = _; rw [upd_ne (ne_of_none e hp)]; exact e) (tk_new hp _) _ _ (cut_reps h2)
            cases k <;> simp only [subK, TmR, Rep] <;> exact ⟨trivial, p, _, rfl, upd_same, by simpa using kp⟩
          refine q3 _ (s3.new p (.tup (cutV vs l h))) [] rfl (r3.new hp _) (Ext.new hp _) ⟨?_, .nil, fun a ha => by cases ha⟩ Frs.nil
          cases k <;> exact hk
      case lst xs =>
        cases e2 : elk k xs with
        | none => rw [e2] at q3; exact q3.elim
        | some ys =>
          rw [e2] at q3
          obtain ⟨a, vs, rfl, h1, h2⟩ := lst_items hu e2
          exact .inl ⟨a, vs, rfl, .of h1, fun p hp => q3.lst r3 (cut_reps h2) hp⟩
      all_goals exact q3.elim
    | loc i => simp only [opSl] at q3; exact q3.elim
    | tp ts => simp only [opSl] at q3; exact q3.elim
    | ls ts => simp only [opSl] at q3; exact q3.elim
    | ob c ts => simp only [opSl] at q3; exact q3.elim
/-- xs[::-1] -/
def opRev (t : Tm) : Option Tm := match t with
  | .v k (.lst xs) => (elk k xs).map fun xs => .v .O (.lst xs.reverse)
  | _ => none
def eRev : Ev → Ev := eOp1 opRev
theorem Reps.rev {H : Hp} {P : Addr → Prop} : ∀ {ds : List D} {vs : List V}, Reps G H P ds vs → Reps G H P ds.reverse vs.reverse
  | [], vs, h => by simp only [Reps] at h; subst h; simp [Reps]
  | d :: ds, vs, h => by
    simp only [Reps] at h
    obtain ⟨v, r, rfl, h1, h⟩ := h
    rw [List.reverse_cons, List.reverse_cons]
    exact (Reps.rev h).app (by simp only [Reps]; exact ⟨v, [], rfl, h1, rfl⟩)
theorem v_rev {k : Nat} {p1 p2 p3 : Pos} (ha : PEv X G W ios a ga) : PEv X G W ios (.Subscript a (.Slice none none (some (.UnaryOp .USub (.Constant (.int 1) k p1) p2)) p3) pos) (eRev ga) := pe_imp (pe_revL ha) fun σ H Q q => by
  refine op1_end (r := fun x H Q => ∃ a xs, x = .ref a ∧ SqL X.K H a xs ∧ ∀ p, H p = none → Q (.ref p) (upd H p (.lst xs.reverse))) ?_ rfl q
  intro pr io σ s x tx t ox Q hr hx e q
  cases tx <;> simp only [opRev, reduceCtorEq] at e
  rename_i k d
  cases d <;> simp only [reduceCtorEq, Option.map_eq_some_iff] at e
  obtain ⟨ys, e, rfl⟩ := e
  obtain ⟨a, vs, rfl, h1, h2⟩ := lst_items hx e
  exact ⟨a, vs, rfl, .of h1, fun p hp => q.lst hr h2.rev hp⟩

/-! ### built-ins -/
theorem call1 {id : Value} {r : List V → Hp → VK → Prop} {f : Tm → Option Tm} (h : Op1 G W f fun x H Q => r [x] H Q) {σ : L2.St} {H : Hp} {Q : VK} (q : tEv G W ios (eOp1 f ga) σ H Q) : tCB r (tCons (tEv G W ios ga) tNil) σ H Q := op1_end h rfl q
theorem call2 {r : List V → Hp → VK → Prop} {f : Tm → Tm → Option Tm} (h : Op2 G W f fun x y H Q => r [x, y] H Q) {σ : L2.St} {H : Hp} {Q : VK} (q : tEv G W ios (eOp2 f ga gb) σ H Q) : tCB r (tCons (tEv G W ios ga) (tCons (tEv G W ios gb) tNil)) σ H Q := op2_end h q
theorem v_b1 {id : String} {r : List V → Hp → VK → Prop} {f : Tm → Option Tm} (hc : CallR X (.builtin id) r) (h : Op1 G W f fun x H Q => r [x] H Q) (hm : X.mg x = none) (ha : PEv X G W ios a ga) (hg : Gl X x := by rfl) (hv : bootBuiltins x = some (.builtin id) := by decide +kernel)
    (hn : x ≠ "__name__" := by decide) (hdb : (x == ("__debug__" : Str)) = false := by decide) (hs : starEach [a] X.env = (false, eval a X.env) :: starEach [] X.env := by rfl) : PEv X G W ios (.Call (.Name x p) [a] [] pos) (eOp1 f ga) :=
  pe_imp (pe_callB hc hg hm hv (pa_cons ha pa_nil hs) hn hdb hs (by rfl)) fun _ _ _ q => call1 (id := .none) h q
theorem v_ty1 {id : String} {r : List V → Hp → VK → Prop} {f : Tm → Option Tm} (hc : CallR X (.type id) r) (h : Op1 G W f fun x H Q => r [x] H Q) (hm : X.mg x = none) (ha : PEv X G W ios a ga) (hg : Gl X x := by rfl) (hv : bootBuiltins x = some (.type id) := by decide +kernel)
    (hn : x ≠ "__name__" := by decide) (hdb : (x == ("__debug__" : Str)) = false := by decide) (hs : starEach [a] X.env = (false, eval a X.env) :: starEach [] X.env := by rfl) : PEv X G W ios (.Call (.Name x p) [a] [] pos) (eOp1 f ga) :=
  pe_imp (pe_callTy hc hg hm hv (pa_cons ha pa_nil hs) hn hdb hs (by rfl)) fun _ _ _ q => call1 (id := .none) h q
theorem v_b2 {id : String} {r : List V → Hp → VK → Prop} {f : Tm → Tm → Option Tm} (hc : CallR X (.builtin id) r) (h : Op2 G W f fun x y H Q => r [x, y] H Q) (hm : X.mg x = none) (ha : PEv X G W ios a ga) (hb : PEv X G W ios b gb) (hg : Gl X x := by rfl) (hv : bootBuiltins x = some (.builtin id) := by decide +kernel)
    (hn : x ≠ "__name__" := by decide) (hdb : (x == ("__debug__" : Str)) = false := by decide) (hs : starEach [a, b] X.env = (false, eval a X.env) :: starEach [b] X.env := by rfl) (hs2 : starEach [b] X.env = (false, eval b X.env) :: starEach [] X.env := by rfl)
    (hpl : (backTo pos (starEach [b] X.env)).any (·.1) = false := by rfl) : PEv X G W ios (.Call (.Name x p) [a, b] [] pos) (eOp2 f ga gb) :=
  pe_imp (pe_callB hc hg hm hv (pa_cons ha (pa_cons hb pa_nil hs2) hs) hn hdb hs hpl) fun _ _ _ q => call2 h q
/-- len -/
def lenD : D → Option D
  | .str z => if z.length ≤ sizeLine then some (.int z.length) else none
  | .lst xs => some (.int xs.length)
  | .tup xs => some (.int xs.length)
  | .scr xs => some (.int xs.length)
  | _ => none
theorem rdLen {K : PySem.W.Frag} (hK : G.K = K) : Rd1 G lenD (fun x H Q => (fun xs H Q => ∃ x n, xs = [x] ∧ LenV K x H n ∧ Q (.int n) H : List V → Hp → VK → Prop) [x] H Q) := by
  intro H x dx d Q hx e q
  cases dx <;> simp only [lenD, Option.some.injEq, reduceCtorEq] at e <;> simp only [Rep] at hx
  · rename_i z
    split at e
    · rename_i hz
      cases e
      subst hx
      exact ⟨_, z.length, rfl, ⟨hz, rfl⟩, q _ fun P => by simp only [Rep]⟩
    · cases e
  · obtain ⟨a, vs, rfl, h1, h2⟩ := hx
    subst e
    exact ⟨_, vs.length, rfl, .inr ⟨vs, .of h1, rfl⟩, q _ fun P => by simp only [Rep]; rw [h2.len]⟩
  · obtain ⟨a, vs, rfl, _, h1, h2⟩ := hx
    subst e
    exact ⟨_, vs.length, rfl, .inl ⟨vs, .of h1, rfl⟩, q _ fun P => by simp only [Rep]; rw [h2.len]⟩
  · rename_i ns
    obtain ⟨a, rfl, h1⟩ := hx
    subst e
    exact ⟨_, ns.length, rfl, .inl ⟨_, hK ▸ h1.sq, by rw [List.length_map]⟩, q _ fun P => by simp only [Rep]⟩
def eLen : Ev → Ev := eOp1 (rd1 lenD)
theorem v_len (hK : G.K = X.K) (hm : X.mg "len" = none) (ha : PEv X G W ios a ga) (hg : Gl X "len" := by rfl) (hs : starEach [a] X.env = (false, eval a X.env) :: starEach [] X.env := by rfl) : PEv X G W ios (.Call (.Name "len" p) [a] [] pos) (eLen ga) :=
  v_b1 call_len (Rd1.op (rdLen hK)) hm ha hg (hs := hs)
def absD : D → Option D
  | .int i => some (.int (if i < 0 then -i else i))
  | _ => none
def eAbs : Ev → Ev := eOp1 (rd1 absD)
theorem v_abs (hm : X.mg "abs" = none) (ha : PEv X G W ios a ga) (hg : Gl X "abs" := by rfl) (hs : starEach [a] X.env = (false, eval a X.env) :: starEach [] X.env := by rfl) : PEv X G W ios (.Call (.Name "abs" p) [a] [] pos) (eAbs ga) :=
  v_b1 call_abs (Rd1.op (by
    intro H x dx d Q hx e q
    cases dx <;> simp only [absD, Option.some.injEq, reduceCtorEq] at e
    subst e
    simp only [Rep] at hx
    subst hx
    exact ⟨_, rfl, q _ fun P => by simp only [Rep]⟩)) hm ha hg (hs := hs)
def eMax2 : Ev → Ev → Ev := eOp2 (rd2 (dI2 fun i j => some (if j > i then j else i)))
def eMin2 : Ev → Ev → Ev := eOp2 (rd2 (dI2 fun i j => some (if j < i then j else i)))
theorem v_max2 (hc : X.calm = true) (hm : X.mg "max" = none) (ha : PEv X G W ios a ga) (hb : PEv X G W ios b gb) (hg : Gl X "max" := by rfl) (hs : starEach [a, b] X.env = (false, eval a X.env) :: starEach [b] X.env := by rfl) (hs2 : starEach [b] X.env = (false, eval b X.env) :: starEach [] X.env := by rfl)
    (hpl : (backTo pos (starEach [b] X.env)).any (·.1) = false := by rfl) : PEv X G W ios (.Call (.Name "max" p) [a, b] [] pos) (eMax2 ga gb) :=
  v_b2 (call_max2 hc) (Rd2.op (by
    intro H x y dx dy d Q hx hy e q
    cases dx <;> cases dy <;> simp only [dI2, Option.map_some, Option.some.injEq, reduceCtorEq] at e
    subst e
    simp only [Rep] at hx hy
    subst hx; subst hy
    exact ⟨_, _, rfl, q _ fun P => by simp only [Rep]⟩)) hm ha hb hg (hs := hs) (hs2 := hs2) (hpl := hpl)
theorem v_min2 (hc : X.calm = true) (hm : X.mg "min" = none) (ha : PEv X G W ios a ga) (hb : PEv X G W ios b gb) (hg : Gl X "min" := by rfl) (hs : starEach [a, b] X.env = (false, eval a X.env) :: starEach [b] X.env := by rfl) (hs2 : starEach [b] X.env = (false, eval b X.env) :: starEach [] X.env := by rfl)
    (hpl : (backTo pos (starEach [b] X.env)).any (·.1) = false := by rfl) : PEv X G W ios (.Call (.Name "min" p) [a, b] [] pos) (eMin2 ga gb) :=
  v_b2 (call_min2 hc) (Rd2.op (by
    intro H x y dx dy d Q hx hy e q
    cases dx <;> cases dy <;> simp only [dI2, Option.map_some, Option.some.injEq, reduceCtorEq] at e
    subst e
    simp only [Rep] at hx hy
    subst hx; subst hy
    exact ⟨_, _, rfl, q _ fun P => by simp only [Rep]⟩)) hm ha hb hg (hs := hs) (hs2 := hs2) (hpl := hpl)
/-- all of them ints -/
def intsD : List D → Option (List Int)
  | [] => some []
  | .int i :: ds => (intsD ds).map (i :: ·)
  | _ => none
theorem intsD_map : ∀ ns : List Int, intsD (ns.map .int) = some ns
  | [] => rfl
  | n :: ns => by simp [intsD, intsD_map ns]
theorem intsD_eq : ∀ {ds : List D} {ns : List Int}, intsD ds = some ns → ds = ns.map .int
  | [], ns, e => by simp only [intsD, Option.some.injEq] at e; subst e; rfl
  | d :: ds, ns, e => by
    cases d <;> simp only [intsD, reduceCtorEq, Option.map_eq_some_iff] at e
    obtain ⟨ms, e, rfl⟩ := e
    rw [intsD_eq e]
    rfl
theorem reps_ints {H : Hp} {P : Addr → Prop} : ∀ {ns : List Int} {vs : List V}, Reps G H P (ns.map .int) vs → vs = ns.map V.int
  | [], vs, h => by simpa [Reps] using h
  | n :: ns, vs, h => by
    simp only [List.map_cons, Reps, Rep] at h
    obtain ⟨v, r, rfl, rfl, h⟩ := h
    rw [reps_ints h]
    rfl
theorem reps_of_ints {H : Hp} {P : Addr → Prop} : ∀ ns : List Int, Reps G H P (ns.map .int) (ns.map V.int)
  | [] => by simp [Reps]
  | n :: ns => by
    simp only [List.map_cons, Reps, Rep]
    exact ⟨_, _, rfl, rfl, reps_of_ints ns⟩
/-- a function on a list of ints -/
def dL1 (f : List Int → Option Int) : D → Option D
  | .lst xs => (intsD xs).bind fun ns => (f ns).map .int
  | _ => none
def eSum : Ev → Ev := eOp1 (rd1 (dL1 fun ns => some ns.sum))
theorem rdL1 {K : PySem.W.Frag} {f : List Int → Option Int} {r : List V → Hp → VK → Prop} (h : ∀ H Q a ns n, SqL K H a (ns.map V.int) → f ns = some n → Q (.int n) H → r [.ref a] H Q) : Rd1 G (dL1 f) (fun x H Q => r [x] H Q) := by
  intro H x dx d Q hx e q
  cases dx <;> simp only [dL1, reduceCtorEq, Option.bind_eq_some_iff, Option.map_eq_some_iff] at e
  obtain ⟨ns, e1, n, e2, rfl⟩ := e
  rw [intsD_eq e1] at hx
  simp only [Rep] at hx
  obtain ⟨a, vs, rfl, _, h1, h2⟩ := hx
  rw [reps_ints h2] at h1
  exact h H Q a ns n (.of h1) e2 (q _ fun P => by simp only [Rep])
def eMax1 : Ev → Ev := eOp1 (rd1 (dL1 fun ns => ns.max?))
def eMin1 : Ev → Ev := eOp1 (rd1 (dL1 fun ns => ns.min?))
theorem v_max1 (hc : X.calm = true) (hm : X.mg "max" = none) (ha : PEv X G W ios a ga) (hg : Gl X "max" := by rfl) (hs : starEach [a] X.env = (false, eval a X.env) :: starEach [] X.env := by rfl) : PEv X G W ios (.Call (.Name "max" p) [a] [] pos) (eMax1 ga) :=
  v_b1 (cr_max hc) (Rd1.op (rdL1 fun H Q a ns n h e q => by
    have hm := List.max?_eq_some_iff.mp e
    refine ⟨a, ns, rfl, h, List.length_pos_of_mem hm.1, fun m h1 h2 => ?_⟩
    have := hm.2 m h1
    have := h2 n hm.1
    have e : m = n := by omega
    subst e
    exact q)) hm ha hg (hs := hs)
theorem v_min1 (hc : X.calm = true) (hm : X.mg "min" = none) (ha : PEv X G W ios a ga) (hg : Gl X "min" := by rfl) (hs : starEach [a] X.env = (false, eval a X.env) :: starEach [] X.env := by rfl) : PEv X G W ios (.Call (.Name "min" p) [a] [] pos) (eMin1 ga) :=
  v_b1 (cr_min hc) (Rd1.op (rdL1 fun H Q a ns n h e q => by
    have hm := List.min?_eq_some_iff.mp e
    refine ⟨a, ns, rfl, h, List.length_pos_of_mem hm.1, fun m h1 h2 => ?_⟩
    have := hm.2 m h1
    have := h2 n hm.1
    have e : m = n := by omega
    subst e
    exact q)) hm ha hg (hs := hs)
/-- list(xs), tuple(xs) -/
def opList (t : Tm) : Option Tm := match t with
  | .v k (.lst xs) => (elk k xs).map fun xs => .v .O (.lst xs)
  | .v k (.tup xs) => (elk k xs).map fun xs => .v .O (.lst xs)
  | _ => none
def opTuple (t : Tm) : Option Tm := match t with
  | .v k (.lst xs) => (elk k xs).map fun xs => .v .F (.tup xs)
  | .v k (.tup xs) => (elk k xs).map fun xs => .v .F (.tup xs)
  | _ => none
def eList : Ev → Ev := eOp1 opList
def eTuple : Ev → Ev := eOp1 opTuple
theorem v_list (hm : X.mg "list" = none) (ha : PEv X G W ios a ga) (hg : Gl X "list" := by rfl) (hs : starEach [a] X.env = (false, eval a X.env) :: starEach [] X.env := by rfl) : PEv X G W ios (.Call (.Name "list" p) [a] [] pos) (eList ga) :=
  v_ty1 call_list_of (by
    intro pr io σ s x tx t ox Q hr hx e q
    cases tx <;> simp only [opList, reduceCtorEq] at e
    rename_i k d
    cases d <;> simp only [reduceCtorEq, Option.map_eq_some_iff] at e <;> obtain ⟨ys, e, rfl⟩ := e
    · obtain ⟨a, vs, rfl, h1, h2⟩ := tup_items hx e
      exact ⟨a, vs, rfl, .inr (.of h1), fun p hp => q.lst hr h2 hp⟩
    · obtain ⟨a, vs, rfl, h1, h2⟩ := lst_items hx e
      exact ⟨a, vs, rfl, .inl (.of h1), fun p hp => q.lst hr h2 hp⟩) hm ha hg (hs := hs)
theorem v_tuple (hm : X.mg "tuple" = none) (ha : PEv X G W ios a ga) (hg : Gl X "tuple" := by rfl) (hs : starEach [a] X.env = (false, eval a X.env) :: starEach [] X.env := by rfl) : PEv X G W ios (.Call (.Name "tuple" p) [a] [] pos) (eTuple ga) :=
  v_ty1 call_tuple_of (by
    intro pr io σ s x tx t ox Q hr hx e q
    cases tx <;> simp only [opTuple, reduceCtorEq] at e
    rename_i k d
    cases d <;> simp only [reduceCtorEq, Option.map_eq_some_iff] at e <;> obtain ⟨ys, e, rfl⟩ := e
    · obtain ⟨a, vs, rfl, h1, h2⟩ := tup_items hx e
      exact ⟨a, vs, rfl, .inr ⟨.of h1, q.done hr (by simp only [Rep]; exact ⟨a, vs, rfl, h1, h2⟩)⟩⟩
    · obtain ⟨a, vs, rfl, h1, h2⟩ := lst_items hx e
      exact ⟨a, vs, rfl, .inl ⟨.of h1, fun p hp => q.tup hr h2 hp⟩⟩) hm ha hg (hs := hs)
end
end PV

namespace PV
open PySem PySem.Spec L2

/-! ### statements -/
inductive Fl where
  | nx (ρ : Ss) | rt (t : Tm) (ρ : Ss) | bk (ρ : Ss) | ct (ρ : Ss)
  | ex (e : Er) (ρ : Ss)
  | no
abbrev Sm := Ss → Fl
def FlP (G : Gx) (W : WX) (pr : Addr → Prop) (io : List (Nat × V)) (s : Sx) (o : Fl) (D : Ends) : Prop := match o with
  | .nx ρ' => ∀ σ' s', s'.ρ = ρ' → SR G pr io σ' s' → Ext s s' → D.nx σ' s'.H
  | .bk ρ' => ∀ σ' s', s'.ρ = ρ' → SR G pr io σ' s' → Ext s s' → D.bk σ' s'.H
  | .ct ρ' => ∀ σ' s', s'.ρ = ρ' → SR G pr io σ' s' → Ext s s' → D.ct σ' s'.H
  | .rt t ρ' => ∀ v σ' s' ot, s'.ρ = ρ' → SR G pr io σ' s' → Ext s s' → Tp G pr σ' s' t v ot → Frs s ot → D.rt v s'.H
  | .ex e ρ' => ∀ cls d σ' s', s'.ρ = ρ' → SR G pr io σ' s' → Ext s s' → ErR G s'.H s'.fz e cls d → W cls d σ' s'.H
  | .no => False
def tSv (G : Gx) (W : WX) (ios : List Nat) (g : Sm) : TS := fun D σ H => ∃ pr io s, s.H = H ∧ io.map Prod.fst = ios ∧ SR G pr io σ s ∧ FlP G W pr io s (g s.ρ) D
abbrev PSv (X : Cx) (G : Gx) (W : WX) (ios : List Nat) (st : Stmt) (g : Sm) : Prop := PS X st (tSv G W ios g)
abbrev PBv (X : Cx) (G : Gx) (W : WX) (ios : List Nat) (st : List Stmt) (g : Sm) : Prop := PSs X st (tSv G W ios g)
theorem ps_imp {X : Cx} {x : Stmt} {t t' : TS} (h : PS X x t) (i : ∀ D σ H, t' D σ H → t D σ H) : PS X x t' := ⟨fun pins s σ H D I q => h.run pins s σ H D I (i D σ H q)⟩
theorem pss_imp {X : Cx} {x : List Stmt} {t t' : TS} (h : PSs X x t) (i : ∀ D σ H, t' D σ H → t D σ H) : PSs X x t' := ⟨fun pins s σ H D I q => h.run pins s σ H D I (i D σ H q)⟩
def Ou.toF (o : Ou) (k : Tm → Ss → Fl) : Fl := match o with
  | .ok t ρ => k t ρ
  | .ex e ρ => .ex e ρ
  | .no => .no
section
variable {G : Gx} {W : WX} {pr : Addr → Prop} {io : List (Nat × V)} {σ : L2.St} {s s1 : Sx} {ios : List Nat} {D : Ends} {X : Cx} {a b c : Expr} {pos p : Pos} {ga gb gc : Ev} {st : Stmt} {rest : List Stmt} {g1 g2 : Sm}
theorem of_tSv {H : Hp} {g : Sm} (h : tSv G W ios g D σ H) : ∃ pr io s, s.H = H ∧ io.map Prod.fst = ios ∧ SR G pr io σ s ∧ FlP G W pr io s (g s.ρ) D := h
theorem tSv_of {g : Sm} (hi : io.map Prod.fst = ios) (r : SR G pr io σ s) (h : FlP G W pr io s (g s.ρ) D) : tSv G W ios g D σ s.H := ⟨pr, io, s, rfl, hi, r, h⟩
theorem FlP.later {o : Fl} (h : FlP G W pr io s o D) (e : Ext s s1) : FlP G W pr io s1 o D := by
  cases o with
  | nx ρ' => exact fun σ' s' h1 h2 h3 => h σ' s' h1 h2 (e.trans h3)
  | bk ρ' => exact fun σ' s' h1 h2 h3 => h σ' s' h1 h2 (e.trans h3)
  | ct ρ' => exact fun σ' s' h1 h2 h3 => h σ' s' h1 h2 (e.trans h3)
  | rt t ρ' => exact fun v σ' s' ot h1 h2 h3 h4 h5 => h v σ' s' ot h1 h2 (e.trans h3) h4 (h5.on e)
  | ex e' ρ' => exact fun cls d σ' s' h1 h2 h3 h4 => h cls d σ' s' h1 h2 (e.trans h3) h4
  | no => exact h
/-- an expression first -/
theorem FlP.toF {o : Ou} {k : Tm → Ss → Fl} (h : FlP G W pr io s (o.toF k) D) {R : VK}
    (hk : ∀ t v s1 ot, SR G pr io σ s1 → Ext s s1 → Tp G pr σ s1 t v ot → Frs s ot → FlP G W pr io s (k t s1.ρ) D → R v s1.H) : OuP G W pr io σ s o R := by
  cases o with
  | ok t ρ' =>
    intro v s1 ot e1 r1 x1 p1 f1
    subst e1
    exact hk t v s1 ot r1 x1 p1 f1 h
  | ex e ρ' => exact fun cls d s' h1 h2 h3 h4 => h cls d σ s' h1 h2 h3 h4
  | no => exact h
def sNil : Sm := fun ρ => .nx ρ
def sSeq (g1 g2 : Sm) : Sm := fun ρ => match g1 ρ with
  | .nx ρ1 => g2 ρ1
  | o => o
theorem b_nil : PBv X G W ios [] sNil := pss_imp pss_nil fun D σ H q => by
  obtain ⟨pr, io, s, rfl, hi, r, q⟩ := of_tSv q
  exact q σ s rfl r (Ext.refl s)
theorem FlP.seq {o : Fl} {g2 : Sm} (hi : io.map Prod.fst = ios) (h : FlP G W pr io s (match o with | .nx ρ1 => g2 ρ1 | o => o) D) : FlP G W pr io s o { D with nx := tSv G W ios g2 D } := by
  cases o with
  | nx ρ' => exact fun σ' s' h1 h2 h3 => by subst h1; exact tSv_of hi h2 (FlP.later h h3)
  | bk ρ' => exact h
  | ct ρ' => exact h
  | rt t ρ' => exact h
  | ex e ρ' => exact h
  | no => exact h
theorem b_cons (h1 : PSv X G W ios st g1) (h2 : PBv X G W ios rest g2) : PBv X G W ios (st :: rest) (sSeq g1 g2) := pss_imp (pss_cons h1 h2) fun D σ H q => by
  obtain ⟨pr, io, s, rfl, hi, r, q⟩ := of_tSv q
  exact tSv_of hi r (FlP.seq hi q)
theorem b_one (h1 : PSv X G W ios st g1) : PBv X G W ios [st] g1 := pss_one h1
def sBreak : Sm := fun ρ => .bk ρ
def sCont : Sm := fun ρ => .ct ρ
/-- never reached -/
def sNever : Sm := fun _ => .no
def sExpr (g : Ev) : Sm := fun ρ => (g ρ).toF fun _ ρ1 => .nx ρ1
theorem s_expr (ha : PEv X G W ios a ga) (hs : swapsWith a none pos.line X.env = pure false := by rfl) : PSv X G W ios (.Expr a pos) (sExpr ga) := ps_imp (ps_expr ha hs) fun D σ H q => by
  obtain ⟨pr, io, s, rfl, hi, r, q⟩ := of_tSv q
  exact tEv_of hi r (FlP.toF q fun t v s1 ot r1 x1 p1 f1 q1 => q1 σ s1 rfl r1 x1)
def sRet (g : Ev) : Sm := fun ρ => (g ρ).toF fun t ρ1 => .rt t ρ1
theorem s_ret (ha : PEv X G W ios a ga) : PSv X G W ios (.Return (some a) pos) (sRet ga) := ps_imp (ps_ret ha) fun D σ H q => by
  obtain ⟨pr, io, s, rfl, hi, r, q⟩ := of_tSv q
  exact tEv_of hi r (FlP.toF q fun t v s1 ot r1 x1 p1 f1 q1 => q1 v σ s1 ot rfl r1 x1 p1 f1)
def sRetN : Sm := fun ρ => .rt (.v .F .non) ρ
def sIf (gc : Ev) (g1 g2 : Sm) : Sm := fun ρ => (gc ρ).toF fun t ρ1 => match asB t with
  | some true => g1 ρ1
  | some false => g2 ρ1
  | none => .no
theorem s_if {ba bb : List Stmt} (hc : PTv X G W ios c gc) (ha : PBv X G W ios ba g1) (hb : PBv X G W ios bb g2) : PSv X G W ios (.If c ba bb pos) (sIf gc g1 g2) := ps_imp (ps_if hc ha hb) fun D σ H q => by
  obtain ⟨pr, io, s, rfl, hi, r, q⟩ := of_tSv q
  show tEv G W ios gc σ s.H (fun x H' => ∃ k, x = .bl k ∧ (if k = true then tSv G W ios g1 D σ H' else tSv G W ios g2 D σ H'))
  refine tEv_of hi r (FlP.toF q fun t v s1 ot r1 x1 p1 f1 q1 => ?_)
  cases e : asB t with
  | none => rw [e] at q1; exact q1.elim
  | some k =>
    rw [e] at q1
    refine ⟨k, asB_of p1 e, ?_⟩
    cases k with
    | true => exact iteT (tSv_of hi r1 (FlP.later q1 x1))
    | false => exact iteF (tSv_of hi r1 (FlP.later q1 x1))

/-! ### name = value -/
def isLoc : Tm → Bool
  | .loc _ => true
  | _ => false
theorem notLoc {t : Tm} (h : isLoc t = false) : ∀ i, t ≠ .loc i := fun i z => by subst z; simp [isLoc] at h
def sSet (i : Nat) (g : Ev) : Sm := fun ρ => (g ρ).toF fun t ρ1 => if isLoc t = false ∧ i < ρ1.length then .nx (ρ1.set i (some t)) else .no
/-- a value in flight is stored at a name -/
theorem SR.store (r : SR G pr io σ s1) (x : Ext s s1) {t : Tm} {v : V} {ot : List Addr} (p : Tp G pr σ s1 t v ot) (f : Frs s ot) (hl : isLoc t = false) {i : Nat} (hi : i < s1.ρ.length) (hio : i ∉ io.map Prod.fst) :
    ∃ os', SR G pr io (σ.set i (some v)) { s1 with ρ := s1.ρ.set i (some t), os := os' } ∧ Ext s { s1 with ρ := s1.ρ.set i (some t), os := os' } := by
  obtain ⟨o1, o2, o3, e, h⟩ := Sl.put (tm_of p.rel (notLoc hl)) r.sl hi
  have nd := r.nd
  rw [e, List.nodup_append, List.nodup_append] at nd
  have sep : ∀ a, (a ∈ o1 ∨ a ∈ o3) → a ∈ s1.os := fun a h => by rw [e]; rcases h with h | h <;> simp [h]
  refine ⟨o1 ++ (ot ++ o3), ⟨h, ?_, fun a ha => ?_, r.dom, fun q hq => ?_⟩, ⟨x.keep, x.dom, x.tk, x.fz, x.fzo, fun a ha => ?_⟩⟩
  · show (o1 ++ (ot ++ o3)).Nodup
    rw [List.nodup_append, List.nodup_append]
    refine ⟨nd.1, ⟨p.nd, nd.2.1.2.1, fun a ha b hb z => ?_⟩, fun a ha b hb z => ?_⟩
    · subst z; exact (p.sep a ha).2.2 (sep a (.inr hb))
    · subst z
      rcases List.mem_append.mp hb with hb | hb
      · exact (p.sep a hb).2.2 (sep a (.inl ha))
      · exact nd.2.2 a ha a (List.mem_append_right _ hb) rfl
  · have ha' : a ∈ o1 ∨ a ∈ ot ∨ a ∈ o3 := by simpa using ha
    rcases ha' with h | h | h
    · exact r.sep a (sep a (.inl h))
    · exact ⟨(p.sep a h).1, (p.sep a h).2.1⟩
    · exact r.sep a (sep a (.inr h))
  · have hne : q.1 ≠ i := fun z => hio (by rw [← z]; exact List.mem_map_of_mem hq)
    show (σ.set i (some v))[q.1]? = _
    rw [List.getElem?_set_ne (Ne.symm hne)]
    exact r.iov q hq
  · have ha' : a ∈ o1 ∨ a ∈ ot ∨ a ∈ o3 := by simpa using ha
    rcases ha' with h | h | h
    · exact x.oso a (sep a (.inl h))
    · exact f a h
    · exact x.oso a (sep a (.inr h))
theorem s_set {i : Nat} {x : Str} {pos' : Pos} (hN : X.N.Nodup) (hio : i ∉ ios) (ha : PEv X G W ios a ga) (hi : X.N[i]? = some x := by rfl) (hx : Loc X.env.scope x := by first | exact Or.inl rfl | exact Or.inr rfl)
    (hs : swapsWith a (some (.Name x pos')) pos.line X.env = pure false := by rfl) (hf : X.fn x = true ∨ X.env.scope.names.lookup x = some .local := by first | exact .inl rfl | exact .inr rfl | assumption) :
    PSv X G W ios (.Assign [.Name x pos'] a pos) (sSet i ga) := ps_imp (ps_set hN hi hx ha hs hf) fun D σ H q => by
  obtain ⟨pr, io, s, rfl, hi, r, q⟩ := of_tSv q
  refine tEv_of hi r (FlP.toF q fun t v s1 ot r1 x1 p1 f1 q1 => ?_)
  split at q1
  · rename_i hc
    obtain ⟨os', r2, x2⟩ := r1.store x1 p1 f1 hc.1 hc.2 (by rw [hi]; exact hio)
    exact q1 _ { s1 with ρ := s1.ρ.set i (some t), os := os' } rfl r2 x2
  · exact q1.elim
end
end PV

namespace PV
open PySem PySem.Spec L2 PyProof.Rows

/-! ### defs whose caller shows nothing under way -/
/-- room, and no text of a container is under way -/
structure RoomG (k : Nat) (A : Around) : Prop where
  r : Room k A
  g : A.guards = some []
theorem RoomG.mono {j k : Nat} {A : Around} (h : RoomG k A) (l : j ≤ k) : RoomG j A := ⟨h.r.mono l, h.g⟩
theorem RoomG.deeper {k : Nat} {A : Around} (h : RoomG (k + 1) A) (env : Env) : RoomG k (A.deeper env) := ⟨h.r.deeper env, h.g⟩
/-- a def's promise (sp), kept wherever there is such room -/
structure FnG (P : Program) (w : World) (K : PySem.W.Frag) (mg : Str → Option Value) (base : Heap) (k : Nat) (f : Addr) (fd : FuncData) (ps : List Str) (sp : Sp) : Prop where
  len : ∀ vs H Q E, sp vs H Q E → vs.length = ps.length
  go : ∀ (A : Around) (outer : List Env) (s : Shared) (H : Hp) (args : Args) (us : List Value) (vs : List V) (Q : VK) (E : XK), RoomG k A → Env0 P w K mg base A outer s H → BindsTo s fd args (ps.zip us) → Vals vs us → sp vs H Q E →
    codeAny (model P w) A (.call (.ref f) args) (CR (L2N.CX P w) outer P w H s Q E) s
section
variable {P : Program} {w : World} {K : PySem.W.Frag} {mg : Str → Option Value} {base : Heap}
theorem FnG.mono {j k : Nat} {f : Addr} {fd : FuncData} {ps : List Str} {sp : Sp} (F : FnG P w K mg base j f fd ps sp) (h : j ≤ k) : FnG P w K mg base k f fd ps sp := ⟨F.len, fun A outer s H args us vs Q E hr => F.go A outer s H args us vs Q E (hr.mono h)⟩
theorem fnG_of {k : Nat} {f : Addr} {name qual : Str} {params : Arguments} {body : List Stmt} {scope : Scope} {dV kV doc pm cdv ct oc : Value} {an od : Option Addr} {osl : Array (Option Value)} {N ps : List Str} {sp : Sp}
    (lk : K.lookup f = some ⟨oc, od, .func (PySem.W.fnOf name qual params body scope dV kV doc pm an cdv ct), osl⟩) (hcd : PySem.W.codeIn K cdv qual = true) (S : FnScope N ps scope) (len : ∀ vs H Q E, sp vs H Q E → vs.length = ps.length)
    (hbody : ∀ (A : Around) (outer : List Env) (s : Shared) (H : Hp) (vs : List V) (Q : VK) (E : XK), RoomG k (A.deeper (envOfC qual scope s.heap.objs.size f cdv)) → sp vs H Q E →
      ∃ t, PSs (cxOf (L2N.CX P w) P w K mg base N qual scope f cdv A outer s H E) body t ∧ t { nx := fun _ H' => Q .non H', rt := Q } (start N vs) H) :
    FnG P w K mg base (k + 1) f (PySem.W.fnOf name qual params body scope dV kV doc pm an cdv ct) ps sp := by
  constructor
  · exact len
  intro A outer s H args us vs Q E hr e0 hb r hsp
  have kept := e0.mod.kin.keeps fun b o e => (e0.bs b o e).1
  have kind_of : ∀ y ∈ ps.zip us, scope.names.lookup y.1 = some .local ∨ (scope.names.lookup y.1 = some .cell ∧ ((cellsFrom (s.heap.objs.size + 1) scope.names []).lookup y.1).isSome = true) := fun y hy => by
    obtain ⟨n, v⟩ := y
    exact (S.par n (List.of_mem_zip hy).1).imp id fun q => ⟨q, PySem.W.cellsFrom_some _ _ _ (.inl q)⟩
  refine codeAny_call_function hr.r.depth (kept _ _ lk) rfl S.co S.gen rfl (PySem.W.codeRec_of kept hcd) (hb _ _ _ _ (wpAny_newFunctionEnv_cells S.kind kind_of fun env he s1 x => ?_))
  cases he
  refine ⟨(e0.mod.nolimit.keeps fun b o e => (e0.bs b o e).1).keeps x.toInCall.keep, codeAny_func ?_⟩
  obtain ⟨t, ht, hq⟩ := hbody A outer s H vs Q E (hr.deeper _) hsp
  have I := inv_start (CX := L2N.CX P w) (E := E) S hr.r.hd e0 (len _ _ _ _ hsp) r x
  refine wpAny_mono (ht.run [] s1 (start N vs) H _ I hq) (fun fl s' hs => ?_) fun _ _ h => h
  match fl, hs with
  | .ret u, ⟨v, σ', H', J, rv, q⟩ => exact ⟨v, H', J.os, J.bare, J.base, J.hok, rv, q⟩
  | .next, ⟨σ', H', J, q⟩ => exact ⟨.non, H', J.os, J.bare, J.base, J.hok, rfl, q⟩
  | .brk, ⟨_, _, _, q⟩ => exact q.elim
  | .cont, ⟨_, _, _, q⟩ => exact q.elim
end
section
variable {X : Cx} {k : Nat} {f : Addr} {fd : FuncData} {ps : List Str} {sp : Sp} {E : L2.St → XK} {x : Str} {p pos : Pos} {e : Expr} {es : List Expr} {t : TA}
theorem run_G {pins : List (Addr × Obj)} {σ : L2.St} {H : Hp} {s : Shared} {Q : VK} {us : List Value} {vs : List V} (F : FnG X.prog X.w X.K X.mg X.base k f fd ps sp) (hr : RoomG k X.A) (hb : Binds X.K fd ps []) (hx : PassesAt (L2N.CX X.prog X.w) X σ (E σ))
    (I : Inv X pins σ H s) (r : Vals vs us) (h : sp vs H Q (E σ)) : wpAny (model X.prog X.w) X.A (call (.ref f) us) (EP X pins σ Q) X.xe s := by
  have b := hb s us I.kIn (by rw [List.append_nil, ← r.length]; exact F.len _ _ _ _ h)
  rw [List.append_nil] at b
  refine wpAny_call (codeAny_mono (F.go X.A X.stack s H ⟨us, []⟩ us vs Q (E σ) hr I.env0 b r h) fun w s' hw => ?_)
  match w, hw with
  | .error e, hw => exact hx pins H s e s' I hw
  | .ok (.ret u), hw => exact I.after hw
  | .ok .next, hw => exact hw.elim
  | .ok .brk, hw => exact hw.elim
  | .ok .cont, hw => exact hw.elim
def tCallG (sp : Sp) (E : L2.St → XK) (t : TA) : TE := fun σ H Q => t σ H fun vs H1 => sp vs H1 Q (E σ)
theorem pe_callG (F : FnG X.prog X.w X.K X.mg X.base k f fd ps sp) (hr : RoomG k X.A) (hg : Gl X x) (hm : X.mg x = some (.ref f)) (hk : PySem.W.keepIn X.K (.ref f) = true) (hb : Binds X.K fd ps []) (hx : ∀ σ, PassesAt (L2N.CX X.prog X.w) X σ (E σ))
    (ha : PA X (e :: es) t) (hdb : (x == ("__debug__" : Str)) = false) (he : starEach (e :: es) X.env = (false, eval e X.env) :: starEach es X.env) (hpl : (backTo pos (starEach es X.env)).any (·.1) = false) :
    PE X (.Call (.Name x p) (e :: es) [] pos) (tCallG sp E t) :=
  ⟨fun pins s σ H Q I h => wpAny_Call_Name_kw (ld_glob I hg hm (PySem.W.callWith_K (h₀ := X.base) I.ok.mod.kin hk (thn (ha.run pos pins s σ H _ I h) fun us s1 h1 => by
    obtain ⟨vs, H1, I1, r, q⟩ := h1
    exact ⟨I1.kIn, run_G F hr hb (hx σ) I1 r q⟩) he hpl) hdb)⟩
/-- a property -/
def tPropG (C : Addr) (sp : Sp) (ta : TE) : TE := fun σ H Q => ta σ H fun x H1 => ∃ a dx fs, x = .ref a ∧ H1 a = some (.ins C dx fs) ∧ sp [.ref a] H1 Q fun _ _ _ => False
end
end PV

namespace PV
open PySem PySem.Spec L2

/-! ### defs and their calls -/
/-- how an argument is handed: lent, shared for good, to be changed and given back -/
inductive Md where
  | b | f | io
  deriving DecidableEq
inductive Fo where
  | ok (t : Tm) (us : List Tm)
  | ex (e : Er) (us : List Tm)
  | no
abbrev Fn := List Tm → Fo
mutual
/-- nothing lent in it -/
def unB : Tm → Option Tm
  | .v .B d => if flat d = true then some (.v .F d) else none
  | .v k d => some (.v k d)
  | .tp ts => (unBs ts).map .tp
  | .ls ts => (unBs ts).map .ls
  | .ob c ts => (unBs ts).map (.ob c)
  | .loc _ => none
def unBs : List Tm → Option (List Tm)
  | [] => some []
  | t :: ts => match unB t, unBs ts with
    | some d, some ds => some (d :: ds)
    | _, _ => none
end
def getIo (ρ : Ss) : List Nat → Option (List Tm)
  | [] => some []
  | i :: is => match ρ[i]? with
    | some (some t) => match unB t, getIo (ρ.set i none) is with
      | some u, some us => some (u :: us)
      | _, _ => none
    | _ => none
/-- a def by its body: n names, the parameters to be given back -/
def defn (n : Nat) (ios : List Nat) (body : Sm) : Fn := fun ts => match body (ts.map some ++ List.replicate (n - ts.length) none) with
  | .nx ρ => match getIo ρ ios with
    | some us => .ok (.v .F .non) us
    | none => .no
  | .rt t ρ => match unB t, getIo ρ ios with
    | some t, some us => .ok t us
    | _, _ => .no
  | .ex e ρ => match getIo ρ ios with
    | some us => .ex e us
    | none => .no
  | _ => .no
mutual
theorem TmR.unB {G : Gx} {H : Hp} {fz pr pr' : Addr → Prop} : ∀ (t : Tm) (v : V) (os : List Addr) (u : Tm), TmR G H fz pr t v os → PV.unB t = some u → TmR G H fz pr' u v os
  | .v .F d, v, os, u, h, e => by simp only [TmR] at h; simp only [PV.unB, Option.some.injEq] at e; subst e; simp only [TmR]; exact h
  | .v .B d, v, os, u, h, e => by
    simp only [TmR] at h; simp only [PV.unB] at e
    by_cases f : PV.flat d = true
    · rw [if_pos f] at e; cases e; simp only [TmR]; exact ⟨h.1, Rep.flat _ _ f h.2⟩
    · rw [if_neg f] at e; cases e
  | .v .O d, v, os, u, h, e => by simp only [TmR] at h; simp only [PV.unB, Option.some.injEq] at e; subst e; simp only [TmR]; exact h
  | .tp ts, v, os, u, h, e => by
    simp only [TmR] at h; simp only [PV.unB, Option.map_eq_some_iff] at e
    obtain ⟨ds, e1, rfl⟩ := e
    obtain ⟨a, vs, ev, h1, h2⟩ := h
    simp only [TmR]
    exact ⟨a, vs, ev, h1, TmRs.unB ts vs os ds h2 e1⟩
  | .ls ts, v, os, u, h, e => by
    simp only [TmR] at h; simp only [PV.unB, Option.map_eq_some_iff] at e
    obtain ⟨ds, e1, rfl⟩ := e
    obtain ⟨a, vs, o, ev, eo, h1, h2⟩ := h
    simp only [TmR]
    exact ⟨a, vs, o, ev, eo, h1, TmRs.unB ts vs o ds h2 e1⟩
  | .ob c ts, v, os, u, h, e => by
    simp only [TmR] at h; simp only [PV.unB, Option.map_eq_some_iff] at e
    obtain ⟨ds, e1, rfl⟩ := e
    obtain ⟨a, dx, vs, o, ev, eo, h1, hl, h2⟩ := h
    simp only [TmR]
    exact ⟨a, dx, vs, o, ev, eo, h1, hl, TmRs.unB ts vs o ds h2 e1⟩
  | .loc i, v, os, u, h, e => by simp only [TmR] at h
theorem TmRs.unB {G : Gx} {H : Hp} {fz pr pr' : Addr → Prop} : ∀ (ts : List Tm) (vs : List V) (os : List Addr) (us : List Tm), TmRs G H fz pr ts vs os → PV.unBs ts = some us → TmRs G H fz pr' us vs os
  | [], vs, os, us, h, e => by simp only [TmRs] at h; simp only [PV.unBs, Option.some.injEq] at e; subst e; simp only [TmRs]; exact h
  | t :: ts, vs, os, us, h, e => by
    simp only [TmRs] at h; simp only [PV.unBs] at e
    obtain ⟨v, r, o1, o2, rfl, rfl, h1, h2⟩ := h
    cases e1 : PV.unB t with
    | none => rw [e1] at e; cases e
    | some d =>
      cases e2 : PV.unBs ts with
      | none => rw [e1, e2] at e; cases e
      | some ds' =>
        rw [e1, e2] at e
        cases e
        simp only [TmRs]
        exact ⟨v, r, o1, o2, rfl, rfl, TmR.unB t v o1 d h1 e1, TmRs.unB ts r o2 ds' h2 e2⟩
end

/-- what is asked of a call's outcome: the parameters to be given back at vo -/
def FoP (G : Gx) (pr : Addr → Prop) (vo : List V) (s : Sx) (o : Fo) (Q : VK) (E : XK) : Prop := match o with
  | .ok t us => ∀ v s' oio ot, Ext s s' → (∀ a, (s'.fz a ∨ pr a) → s'.H a ≠ none) → TmRs G s'.H s'.fz (fun _ => False) us vo oio → TmR G s'.H s'.fz (fun _ => False) t v ot → (oio ++ ot).Nodup → (∀ a ∈ oio ++ ot, ¬ s'.fz a ∧ ¬ pr a ∧ (a ∈ s.os ∨ s.H a = none)) → Q v s'.H
  | .ex e us => ∀ cls d s' oio, Ext s s' → (∀ a, (s'.fz a ∨ pr a) → s'.H a ≠ none) → TmRs G s'.H s'.fz (fun _ => False) us vo oio → ErR G s'.H s'.fz e cls d → oio.Nodup → (∀ a ∈ oio, ¬ s'.fz a ∧ ¬ pr a ∧ (a ∈ s.os ∨ s.H a = none)) → E cls d s'.H
  | .no => False
/-- a def's promise by value -/
def spV (G : Gx) (n : Nat) (ios : List Nat) (f : Fn) : Sp := fun vs H Q E => vs.length = n ∧ ∃ pr io s ts, s.H = H ∧ io.map Prod.fst = ios ∧ s.ρ = ts.map some ∧ SR G pr io (vs.map some) s ∧ FoP G pr (io.map Prod.snd) s (f ts) Q E

section
variable {G : Gx} {W : WX} {pr : Addr → Prop} {io : List (Nat × V)} {σ : L2.St} {s s1 : Sx} {ios : List Nat} {Q : VK} {X : Cx}
theorem Sl.pad {H : Hp} {fz : Addr → Prop} : ∀ {ts : List Tm} {vs : List V} {os : List Addr} (n : Nat), Sl G H fz pr (ts.map some) (vs.map some) os → Sl G H fz pr (ts.map some ++ List.replicate n none) (vs.map some ++ List.replicate n none) os
  | [], vs, os, n, h => by
    simp only [List.map_nil, Sl] at h
    obtain ⟨h1, rfl⟩ := h
    have : vs = [] := by simpa using h1
    subst this
    simp only [List.map_nil, List.nil_append]
    induction n with
    | zero => simp [Sl]
    | succ n ih => rw [List.replicate_succ, List.replicate_succ]; simp only [Sl]; exact ⟨_, _, rfl, ih⟩
  | t :: ts, vs, os, n, h => by
    simp only [List.map_cons, Sl] at h
    obtain ⟨v, r, o1, o2, e, rfl, h1, h2⟩ := h
    cases vs with
    | nil => simp at e
    | cons w ws =>
      simp only [List.map_cons, List.cons.injEq, Option.some.injEq] at e
      obtain ⟨rfl, rfl⟩ := e
      simp only [List.map_cons, List.cons_append, Sl]
      exact ⟨_, _, o1, o2, rfl, rfl, h1, Sl.pad n h2⟩
/-- what is given back, taken out of the slots -/
theorem Sl.getIo {H : Hp} {fz : Addr → Prop} : ∀ {io : List (Nat × V)} {ρ : Ss} {os : List Addr} {us : List Tm}, Sl G H fz pr ρ σ os → os.Nodup → (∀ p ∈ io, σ[p.1]? = some (some p.2)) → PV.getIo ρ (io.map Prod.fst) = some us →
    ∃ oio, TmRs G H fz (fun _ => False) us (io.map Prod.snd) oio ∧ oio.Nodup ∧ ∀ a ∈ oio, a ∈ os
  | [], ρ, os, us, h, nd, hv, e => by
    simp only [List.map_nil, PV.getIo, Option.some.injEq] at e
    subst e
    exact ⟨[], by simp [TmRs], .nil, fun a ha => by cases ha⟩
  | (i, w) :: io, ρ, os, us, h, nd, hv, e => by
    simp only [List.map_cons, PV.getIo] at e
    split at e
    · rename_i t et
      split at e
      · rename_i u us' e1 e2
        cases e
        obtain ⟨v, o1, o2, o3, e3, e4, h1, h2⟩ := Sl.drop h et
        have hw := hv (i, w) List.mem_cons_self
        rw [e3] at hw
        cases hw
        rw [e4, List.nodup_append, List.nodup_append] at nd
        have nd2 : (o1 ++ o3).Nodup := by
          rw [List.nodup_append]
          exact ⟨nd.1, nd.2.1.2.1, fun a ha b hb => nd.2.2 a ha b (List.mem_append_right _ hb)⟩
        obtain ⟨oio, k1, k2, k3⟩ := Sl.getIo h2 nd2 (fun p hp => hv p (List.mem_cons_of_mem _ hp)) e2
        refine ⟨o2 ++ oio, ?_, ?_, fun a ha => ?_⟩
        · simp only [List.map_cons, TmRs]
          exact ⟨w, _, o2, oio, rfl, rfl, TmR.unB _ _ _ _ h1 e1, k1⟩
        · rw [List.nodup_append]
          refine ⟨nd.2.1.1, k2, fun a ha b hb z => ?_⟩
          subst z
          rcases List.mem_append.mp (k3 a hb) with hb | hb
          · exact nd.2.2 a hb a (List.mem_append_left _ ha) rfl
          · exact nd.2.1.2.2 a ha a hb rfl
        · rw [e4]
          rcases List.mem_append.mp ha with ha | ha
          · simp [ha]
          · rcases List.mem_append.mp (k3 a ha) with hb | hb <;> simp [hb]
      · cases e
    · cases e
/-- a def as it stands behind the top -/
def FunX (K : PySem.W.Frag) (x qual : Str) (st : Stmt) (f : Addr) (fd : FuncData) : Prop := ∃ (oc : Value) (od : Option Addr) (dV kV doc pm : Value) (an : Option Addr) (cdv ct : Value) (osl : Array (Option Value)),
  fd = PySem.W.fnOf x qual (defArgs st) (defBody st) (defScope st) dV kV doc pm an cdv ct ∧ K.lookup f = some ⟨oc, od, .func fd, osl⟩ ∧ PySem.W.codeIn K cdv qual = true
theorem FunX.of {K : PySem.W.Frag} {x qual : Str} {st : Stmt} {f : Addr} {fd : FuncData} (F : Fun K x qual st f fd) : FunX K x qual st f fd := by
  obtain ⟨oc, od, kV, doc, pm, an, cdv, ct, osl, h⟩ := F.ex
  exact ⟨oc, od, .none, kV, doc, pm, an, cdv, ct, osl, h⟩
/-- where a def's body runs -/
structure Rm (X : Cx) (W : WX) (k : Nat) : Prop where
  rm : RoomG k X.A
  tk : L2N.Takes X W
  po : PassesOwn (model X.prog X.w) X.A X.env X.xe
  stk : X.stack = X.env :: X.outer
  frm : X.env.frame = some X.env.locals
/-- THE RULE: a def by its body -/
theorem fn_v {P : Program} {w : World} {K : PySem.W.Frag} {mg : Str → Option Value} {base : Heap} {x qual : Str} {st : Stmt} {f : Addr} {fd : FuncData} {N ps : List Str} {k : Nat} {body : Sm} (F : FunX K x qual st f fd) (S : FnScope N ps (defScope st))
    (hps : ps.length ≤ N.length) (ios : List Nat)
    (hb : ∀ (cdv : Value) (A : Around) (outer : List Env) (s0 : Shared) (H : Hp) (E : XK), Rm (cxOf (L2N.CX P w) P w K mg base N qual (defScope st) f cdv A outer s0 H E) (fun cls d _ H => E cls d H) k →
      PBv (cxOf (L2N.CX P w) P w K mg base N qual (defScope st) f cdv A outer s0 H E) G (fun cls d _ H => E cls d H) ios (defBody st) body) :
    FnG P w K mg base (k + 1) f fd ps (spV G ps.length ios (defn N.length ios body)) := by
  obtain ⟨oc, od, dV, kV, doc, pm, an, cdv, ct, osl, rfl, lk, hcd⟩ := F
  refine fnG_of lk hcd S (fun vs H Q E h => h.1) (fun A outer s0 H vs Q E hr h => ?_)
  obtain ⟨hl, pr, io, s, ts, rfl, hi, eρ, r, q⟩ := h
  refine ⟨tSv G (fun cls d _ H => E cls d H) ios body, ?_, ?_⟩
  · exact hb _ _ _ _ _ _ ⟨hr, L2N.takes_of rfl rfl rfl rfl, passes_of rfl, rfl, rfl⟩
  · have hlen : ts.length = vs.length := by have := Sl.len r.sl; rw [eρ] at this; simpa using this
    have hst : L2.start N vs = vs.map some ++ List.replicate (N.length - ts.length) none := by unfold L2.start; rw [hlen]
    have sl : Sl G s.H s.fz pr (ts.map some ++ List.replicate (N.length - ts.length) none) (L2.start N vs) s.os := by
      rw [hst]
      have := r.sl
      rw [eρ] at this
      exact this.pad _
    have r' : SR G pr io (L2.start N vs) { s with ρ := ts.map some ++ List.replicate (N.length - ts.length) none } := by
      refine ⟨sl, r.nd, r.sep, r.dom, fun p hp => ?_⟩
      have h := r.iov p hp
      rw [hst, List.getElem?_append_left (by
        have := (List.getElem?_eq_some_iff.mp h).1
        exact this)]
      exact h
    refine tSv_of (s := { s with ρ := ts.map some ++ List.replicate (N.length - ts.length) none }) hi r' ?_
    have xt : ∀ {s' : Sx}, Ext { s with ρ := ts.map some ++ List.replicate (N.length - ts.length) none } s' → Ext s s' := fun e => ⟨e.keep, e.dom, e.tk, e.fz, e.fzo, e.oso⟩
    unfold defn at q
    have fin : ∀ {t : Tm} {u : Tm} {us : List Tm} {ρ' : Ss}, unB t = some u → getIo ρ' ios = some us → FoP G pr (io.map Prod.snd) s (.ok u us) Q E → ∀ v σ' s' ot, s'.ρ = ρ' → SR G pr io σ' s' → Ext { s with ρ := ts.map some ++ List.replicate (N.length - ts.length) none } s' →
        Tp G pr σ' s' t v ot → Frs { s with ρ := ts.map some ++ List.replicate (N.length - ts.length) none } ot → Q v s'.H := by
      intro t u us ρ' hu hg q v σ' s' ot e1 r1 x1 p1 f1
      subst e1
      rw [← hi] at hg
      obtain ⟨oio, k1, k2, k3⟩ := Sl.getIo r1.sl r1.nd r1.iov hg
      have hlc : ∀ i, t ≠ .loc i := fun i z => by subst z; simp [unB] at hu
      refine q v s' oio ot (xt x1) r1.dom k1 (TmR.unB _ _ _ _ (tm_of p1.rel hlc) hu) ?_ fun a ha => ?_
      · rw [List.nodup_append]
        exact ⟨k2, p1.nd, fun a ha b hb z => by subst z; exact (p1.sep a hb).2.2 (k3 a ha)⟩
      · rcases List.mem_append.mp ha with ha | ha
        · exact ⟨(r1.sep a (k3 a ha)).1, (r1.sep a (k3 a ha)).2, x1.oso a (k3 a ha)⟩
        · exact ⟨(p1.sep a ha).1, (p1.sep a ha).2.1, f1 a ha⟩
    show FlP G _ pr io _ (body (ts.map some ++ List.replicate (N.length - ts.length) none)) _
    cases eb : body (ts.map some ++ List.replicate (N.length - ts.length) none) with
    | nx ρ' =>
      rw [eb] at q
      simp only at q
      cases eg : getIo ρ' ios with
      | none => rw [eg] at q; exact q.elim
      | some us =>
        rw [eg] at q
        exact fun σ' s' e1 r1 x1 => fin (t := .v .F .non) (by simp [unB]) eg q .non σ' s' [] e1 r1 x1 ⟨by simp only [TmT, TmR, Rep]; exact ⟨trivial, trivial⟩, .nil, fun a ha => by cases ha⟩ Frs.nil
    | rt t ρ' =>
      rw [eb] at q
      simp only at q
      cases eu : unB t with
      | none => rw [eu] at q; exact q.elim
      | some u =>
        cases eg : getIo ρ' ios with
        | none => rw [eu, eg] at q; exact q.elim
        | some us =>
          rw [eu, eg] at q
          exact fun v σ' s' ot e1 r1 x1 p1 f1 => fin eu eg q v σ' s' ot e1 r1 x1 p1 f1
    | ex e ρ' =>
      rw [eb] at q
      simp only at q
      cases eg : getIo ρ' ios with
      | none => rw [eg] at q; exact q.elim
      | some us =>
        rw [eg] at q
        intro cls d σ' s' e1 r1 x1 k
        subst e1
        rw [← hi] at eg
        obtain ⟨oio, k1, k2, k3⟩ := Sl.getIo r1.sl r1.nd r1.iov eg
        exact q cls d s' oio (xt x1) r1.dom k1 k k2 fun a ha => ⟨(r1.sep a (k3 a ha)).1, (r1.sep a (k3 a ha)).2, x1.oso a (k3 a ha)⟩
    | bk ρ' => rw [eb] at q; exact q.elim
    | ct ρ' => rw [eb] at q; exact q.elim
    | no => rw [eb] at q; exact q.elim
end
end PV

namespace PV
open PySem PySem.Spec L2

/-! ### calls of defs -/
def pullT : List Tm → List Md → Ss → Option (List Tm × Ss)
  | t :: ts, .io :: ms, ρ => match t with
    | .loc i => match ρ[i]? with
      | some (some u) => match pullT ts ms (ρ.set i none) with
        | some (us, ρ') => some (u :: us, ρ')
        | none => none
      | _ => none
    | t => match pullT ts ms ρ with
      | some (us, ρ') => some (t :: us, ρ')
      | none => none
  | _ :: ts, .b :: ms, ρ => pullT ts ms ρ
  | _ :: ts, .f :: ms, ρ => pullT ts ms ρ
  | [], [], ρ => some ([], ρ)
  | _, _, _ => none
def paramsT : List Tm → List Md → List Tm → Ss → Option (List Tm)
  | _ :: ts, .io :: ms, u :: us, ρ => (paramsT ts ms us ρ).map (u :: ·)
  | t :: ts, .b :: ms, us, ρ => match derT ρ t, paramsT ts ms us ρ with
    | some x, some ps => some (.v .B (toD x) :: ps)
    | _, _ => none
  | t :: ts, .f :: ms, us, ρ => match t, paramsT ts ms us ρ with
    | .v .F d, some ps => some (.v .F d :: ps)
    | .v .B d, some ps => if flat d = true then some (.v .F d :: ps) else none
    | _, _ => none
  | [], [], [], _ => some []
  | _, _, _, _ => none
def putT : List Tm → List Md → List Tm → Ss → Option Ss
  | t :: ts, .io :: ms, u :: us, ρ => match t with
    | .loc i => if i < ρ.length then putT ts ms us (ρ.set i (some u)) else none
    | _ => putT ts ms us ρ
  | _ :: ts, .b :: ms, us, ρ => putT ts ms us ρ
  | _ :: ts, .f :: ms, us, ρ => putT ts ms us ρ
  | [], [], [], ρ => some ρ
  | _, _, _, _ => none
def callF (f : Fn) (ms : List Md) (ts : List Tm) (ρ1 : Ss) : Ou := match pullT ts ms ρ1 with
  | some (us, ρ2) => match paramsT ts ms us ρ2 with
    | some ps => match f ps with
      | .ok t us' => match putT ts ms us' ρ2 with
        | some ρ3 => .ok t ρ3
        | none => .no
      | .ex e us' => match putT ts ms us' ρ2 with
        | some ρ3 => .ex e ρ3
        | none => .no
      | .no => .no
    | none => .no
  | none => .no
def eCall (f : Fn) (ms : List Md) (gs : Ss → OuL) : Ev := fun ρ => (gs ρ).bind (callF f ms)
def ioV : List Md → List V → List V
  | .io :: ms, v :: vs => v :: ioV ms vs
  | _ :: ms, _ :: vs => ioV ms vs
  | _, _ => []
section
variable {G : Gx} {W : WX} {pr : Addr → Prop} {io : List (Nat × V)} {σ : L2.St} {s s1 : Sx} {ios : List Nat} {Q : VK} {X : Cx}
/-- the arguments that are not given back -/
def TmTb (G : Gx) (pr : Addr → Prop) (σ : L2.St) (s : Sx) : List Tm → List Md → List V → List Addr → Prop
  | _ :: ts, .io :: ms, _ :: vs, o => TmTb G pr σ s ts ms vs o
  | t :: ts, .b :: ms, v :: vs, o => ∃ o1 o2, o = o1 ++ o2 ∧ TmT G pr σ s t v o1 ∧ TmTb G pr σ s ts ms vs o2
  | t :: ts, .f :: ms, v :: vs, o => ∃ o1 o2, o = o1 ++ o2 ∧ TmT G pr σ s t v o1 ∧ TmTb G pr σ s ts ms vs o2
  | [], [], [], o => o = []
  | _, _, _, _ => False
theorem pull_ok : ∀ {ts : List Tm} {ms : List Md} {ρ ρ2 : Ss} {us : List Tm} {vs : List V} {os ot : List Addr}, Sl G s.H s.fz pr ρ σ os → TmTs G pr σ s ts vs ot → (os ++ ot).Nodup → pullT ts ms ρ = some (us, ρ2) →
    ∃ os2 oio otb, Sl G s.H s.fz pr ρ2 σ os2 ∧ TmRs G s.H s.fz pr us (ioV ms vs) oio ∧ TmTb G pr σ s ts ms vs otb ∧ (os2 ++ (oio ++ otb)).Nodup ∧ (∀ a ∈ os2, a ∈ os) ∧ (∀ a ∈ oio, a ∈ os ∨ a ∈ ot) ∧ ∀ a ∈ otb, a ∈ ot
  | [], [], ρ, ρ2, us, vs, os, ot, h, ht, nd, e => by
    simp only [pullT, Option.some.injEq, Prod.mk.injEq] at e
    obtain ⟨rfl, rfl⟩ := e
    obtain ⟨rfl, rfl⟩ := ht
    exact ⟨os, [], [], h, by simp [TmRs, ioV], by simp [TmTb], by simpa using nd, fun a ha => ha, (fun a ha => by simp at ha), (fun a ha => by simp at ha)⟩
  | [], m :: ms, ρ, ρ2, us, vs, os, ot, h, ht, nd, e => by cases m <;> simp [pullT] at e
  | t :: ts, [], ρ, ρ2, us, vs, os, ot, h, ht, nd, e => by simp [pullT] at e
  | t :: ts, .b :: ms, ρ, ρ2, us, vs, os, ot, h, ht, nd, e => by
    obtain ⟨v, r, o1, o2, rfl, rfl, h1, h2⟩ := ht
    simp only [pullT] at e
    have nd' : (os ++ o2).Nodup := by simp only [List.nodup_append, List.mem_append] at nd ⊢; grind
    obtain ⟨os2, oio, otb, k1, k2, k3, k4, k5, k6, k7⟩ := pull_ok h h2 nd' e
    refine ⟨os2, oio, o1 ++ otb, k1, k2, ⟨o1, otb, rfl, h1, k3⟩, ?_, k5, fun a ha => (k6 a ha).imp id fun z => List.mem_append_right _ z, fun a ha => ?_⟩
    · simp only [List.nodup_append, List.mem_append] at nd k4 ⊢; grind
    · rcases List.mem_append.mp ha with ha | ha
      · exact List.mem_append_left _ ha
      · exact List.mem_append_right _ (k7 a ha)
  | t :: ts, .f :: ms, ρ, ρ2, us, vs, os, ot, h, ht, nd, e => by
    obtain ⟨v, r, o1, o2, rfl, rfl, h1, h2⟩ := ht
    simp only [pullT] at e
    have nd' : (os ++ o2).Nodup := by simp only [List.nodup_append, List.mem_append] at nd ⊢; grind
    obtain ⟨os2, oio, otb, k1, k2, k3, k4, k5, k6, k7⟩ := pull_ok h h2 nd' e
    refine ⟨os2, oio, o1 ++ otb, k1, k2, ⟨o1, otb, rfl, h1, k3⟩, ?_, k5, fun a ha => (k6 a ha).imp id fun z => List.mem_append_right _ z, fun a ha => ?_⟩
    · simp only [List.nodup_append, List.mem_append] at nd k4 ⊢; grind
    · rcases List.mem_append.mp ha with ha | ha
      · exact List.mem_append_left _ ha
      · exact List.mem_append_right _ (k7 a ha)
  | t :: ts, .io :: ms, ρ, ρ2, us, vs, os, ot, h, ht, nd, e => by
    obtain ⟨v, r, o1, o2, rfl, rfl, h1, h2⟩ := ht
    by_cases hl : isLoc t = true
    · cases t with
      | loc i =>
        obtain ⟨rfl, hv⟩ := h1
        simp only [pullT] at e
        split at e
        · rename_i u eu
          split at e
          · rename_i us' ρ' e1
            cases e
            obtain ⟨w, p1, p2, p3, e3, rfl, q1, q2⟩ := Sl.drop h eu
            rw [hv] at e3
            cases e3
            have nd' : ((p1 ++ p3) ++ o2).Nodup := by simp only [List.nodup_append, List.mem_append, List.nil_append] at nd ⊢; grind
            obtain ⟨os2, oio, otb, k1, k2, k3, k4, k5, k6, k7⟩ := pull_ok q2 h2 nd' e1
            refine ⟨os2, p2 ++ oio, otb, k1, ?_, k3, ?_, fun a ha => ?_, fun a ha => ?_, fun a ha => List.mem_append_right _ (k7 a ha)⟩
            · simp only [TmRs, ioV]; exact ⟨v, _, p2, oio, rfl, rfl, q1, k2⟩
            · simp only [List.nodup_append, List.mem_append, List.nil_append] at nd k4 k5 k6 ⊢; grind
            · have := k5 a ha; simp only [List.mem_append] at this ⊢; grind
            · simp only [List.mem_append] at k6 ha ⊢; grind
          · cases e
        · cases e
      | v k d => simp [isLoc] at hl
      | tp ts => simp [isLoc] at hl
      | ls ts => simp [isLoc] at hl
      | ob c ts => simp [isLoc] at hl
    · have hl' : isLoc t = false := by simpa using hl
      have e' : (match pullT ts ms ρ with | some (us, ρ') => some (t :: us, ρ') | none => none) = some (us, ρ2) := by
        cases t <;> first | exact e | simp [isLoc] at hl'
      split at e'
      · rename_i us' ρ' e1
        cases e'
        have nd' : (os ++ o2).Nodup := by simp only [List.nodup_append, List.mem_append] at nd ⊢; grind
        obtain ⟨os2, oio, otb, k1, k2, k3, k4, k5, k6, k7⟩ := pull_ok h h2 nd' e1
        refine ⟨os2, o1 ++ oio, otb, k1, ?_, k3, ?_, k5, fun a ha => ?_, fun a ha => List.mem_append_right _ (k7 a ha)⟩
        · simp only [TmRs, ioV]; exact ⟨v, _, o1, oio, rfl, rfl, tm_of h1 (notLoc hl'), k2⟩
        · simp only [List.nodup_append, List.mem_append] at nd k4 k5 k6 k7 ⊢; grind
        · simp only [List.mem_append] at k6 ha ⊢; grind
      · cases e'
/-- forgetting the owner, keeping whose addresses they are -/
theorem imp3 {A B C C' : Prop} (h : C → C') (p : A ∨ B ∨ C) : A ∨ B ∨ C' := p.imp id fun q => q.imp id h
mutual
theorem tm_toDP {H : Hp} {fz : Addr → Prop} : ∀ (t : Tm) (v : V) (os : List Addr), TmR G H fz pr t v os → Rep G H (fun a => fz a ∨ pr a ∨ a ∈ os) (toD t) v
  | .v .F d, v, os, h => by simp only [TmR] at h; simp only [toD]; exact h.2.mono fun a p => .inl p
  | .v .B d, v, os, h => by simp only [TmR] at h; simp only [toD]; exact h.2.mono fun a p => p.imp id .inl
  | .v .O d, v, os, h => by simp only [TmR] at h; simp only [toD]; exact h.any.mono fun a p => p.imp id .inr
  | .tp ts, v, os, h => by simp only [TmR] at h; simp only [toD, Rep]; obtain ⟨a, vs, e, h1, h2⟩ := h; exact ⟨a, vs, e, h1, tms_toDP ts vs os h2⟩
  | .ls ts, v, os, h => by
    simp only [TmR] at h; simp only [toD, Rep]
    obtain ⟨a, vs, o, e, rfl, h1, h2⟩ := h
    exact ⟨a, vs, e, .inr (.inr List.mem_cons_self), h1, (tms_toDP ts vs o h2).mono fun b p => imp3 (List.mem_cons_of_mem _) p⟩
  | .ob c ts, v, os, h => by
    simp only [TmR] at h; simp only [toD, Rep]
    obtain ⟨a, dx, vs, o, e, rfl, h1, hl, h2⟩ := h
    exact ⟨a, dx, vs, e, .inr (.inr List.mem_cons_self), h1, hl, (tms_toDP ts vs o h2).mono fun b p => imp3 (List.mem_cons_of_mem _) p⟩
  | .loc i, v, os, h => by simp only [TmR] at h
theorem tms_toDP {H : Hp} {fz : Addr → Prop} : ∀ (ts : List Tm) (vs : List V) (os : List Addr), TmRs G H fz pr ts vs os → Reps G H (fun a => fz a ∨ pr a ∨ a ∈ os) (toDs ts) vs
  | [], vs, os, h => by simp only [TmRs] at h; simp only [toDs, Reps]; exact h.1
  | t :: ts, vs, os, h => by
    simp only [TmRs] at h; simp only [toDs, Reps]
    obtain ⟨v, r, o1, o2, rfl, rfl, h1, h2⟩ := h
    exact ⟨v, r, rfl, (tm_toDP t v o1 h1).mono fun a p => imp3 (List.mem_append_left _) p, (tms_toDP ts r o2 h2).mono fun a p => imp3 (List.mem_append_right _) p⟩
end
/-- the callee's parameters -/
theorem params_ok {os2 otb : List Addr} {pr' : Addr → Prop} {ρ2 : Ss} (hs : Sl G s.H s.fz pr ρ2 σ os2) (hp : ∀ a, (pr a ∨ a ∈ os2 ∨ a ∈ otb) → s.fz a ∨ pr' a) :
    ∀ {ts : List Tm} {ms : List Md} {us ps : List Tm} {vs : List V} {o1 o2 : List Addr}, TmRs G s.H s.fz pr us (ioV ms vs) o1 → TmTb G pr σ s ts ms vs o2 → (∀ a ∈ o2, a ∈ otb) → paramsT ts ms us ρ2 = some ps →
    Sl G s.H s.fz pr' (ps.map some) (vs.map some) o1
  | [], [], us, ps, vs, o1, o2, h, hb, ho, e => by
    cases us with
    | nil =>
      simp only [paramsT, Option.some.injEq] at e
      subst e
      cases vs with
      | nil => simp only [ioV, TmRs] at h; simp only [List.map_nil, Sl]; exact ⟨trivial, h.2⟩
      | cons v vs => simp [TmTb] at hb
    | cons u us => simp [paramsT] at e
  | [], m :: ms, us, ps, vs, o1, o2, h, hb, ho, e => by cases m <;> simp [paramsT] at e
  | t :: ts, [], us, ps, vs, o1, o2, h, hb, ho, e => by simp [paramsT] at e
  | t :: ts, .io :: ms, us, ps, vs, o1, o2, h, hb, ho, e => by
    cases us with
    | nil => simp [paramsT] at e
    | cons u us =>
      cases vs with
      | nil => simp [TmTb] at hb
      | cons v vs =>
        simp only [paramsT, Option.map_eq_some_iff] at e
        obtain ⟨ps', e, rfl⟩ := e
        simp only [ioV, TmRs] at h
        obtain ⟨v', r, p1, p2, ev, rfl, h1, h2⟩ := h
        cases ev
        simp only [TmTb] at hb
        simp only [List.map_cons, Sl]
        refine ⟨v, _, p1, p2, rfl, rfl, ?_, params_ok hs hp h2 hb ho e⟩
        exact TmR.keep (fun _ h => h) (fun a p => hp a (.inl p)) (Tk.refl _) _ _ _ (fun a o _ e => e) h1
  | t :: ts, .b :: ms, us, ps, vs, o1, o2, h, hb, ho, e => by
    cases vs with
    | nil => simp [TmTb] at hb
    | cons v vs =>
      simp only [paramsT] at e
      split at e
      · rename_i x ps' e1 e2
        cases e
        simp only [ioV] at h
        obtain ⟨p1, p2, rfl, h1, h2⟩ := hb
        simp only [List.map_cons, Sl]
        refine ⟨v, _, [], o1, rfl, rfl, ?_, params_ok hs hp h h2 (fun a ha => ho a (List.mem_append_right _ ha)) e2⟩
        simp only [TmR]
        refine ⟨trivial, ?_⟩
        cases t with
        | loc i =>
          obtain ⟨rfl, hv⟩ := h1
          simp only [derT] at e1
          split at e1
          · rename_i u eu
            cases e1
            obtain ⟨w, q1, q2, q3, e3, e4, hx, _⟩ := Sl.get hs eu
            rw [hv] at e3
            cases e3
            refine (tm_toDP _ _ _ hx).mono fun a p => ?_
            rcases p with p | p | p
            · exact .inl p
            · exact hp a (.inl p)
            · exact hp a (.inr (.inl (by rw [e4]; simp [p])))
          · cases e1
        | v k d =>
          cases e1
          refine (tm_toDP _ _ _ h1).mono fun a p => ?_
          rcases p with p | p | p
          · exact .inl p
          · exact hp a (.inl p)
          · exact hp a (.inr (.inr (ho a (List.mem_append_left _ p))))
        | tp ts =>
          cases e1
          refine (tm_toDP _ _ _ h1).mono fun a p => ?_
          rcases p with p | p | p
          · exact .inl p
          · exact hp a (.inl p)
          · exact hp a (.inr (.inr (ho a (List.mem_append_left _ p))))
        | ls ts =>
          cases e1
          refine (tm_toDP _ _ _ h1).mono fun a p => ?_
          rcases p with p | p | p
          · exact .inl p
          · exact hp a (.inl p)
          · exact hp a (.inr (.inr (ho a (List.mem_append_left _ p))))
        | ob c ts =>
          cases e1
          refine (tm_toDP _ _ _ h1).mono fun a p => ?_
          rcases p with p | p | p
          · exact .inl p
          · exact hp a (.inl p)
          · exact hp a (.inr (.inr (ho a (List.mem_append_left _ p))))
      · cases e
  | t :: ts, .f :: ms, us, ps, vs, o1, o2, h, hb, ho, e => by
    cases vs with
    | nil => simp [TmTb] at hb
    | cons v vs =>
      simp only [paramsT] at e
      split at e
      · rename_i d ps' e2
        cases e
        simp only [ioV] at h
        obtain ⟨p1, p2, rfl, h1, h2⟩ := hb
        simp only [List.map_cons, Sl]
        refine ⟨v, _, [], o1, rfl, rfl, ?_, params_ok hs hp h h2 (fun a ha => ho a (List.mem_append_right _ ha)) e2⟩
        simp only [TmT, TmR] at h1
        simp only [TmR]
        exact ⟨trivial, h1.2⟩
      · rename_i d ps' e2
        split at e
        · rename_i hf
          cases e
          simp only [ioV] at h
          obtain ⟨p1, p2, rfl, h1, h2⟩ := hb
          simp only [List.map_cons, Sl]
          refine ⟨v, _, [], o1, rfl, rfl, ?_, params_ok hs hp h h2 (fun a ha => ho a (List.mem_append_right _ ha)) e2⟩
          simp only [TmT, TmR] at h1
          simp only [TmR]
          exact ⟨trivial, Rep.flat _ _ hf h1.2⟩
        · cases e
      · cases e
/-- what is given back goes to its slots -/
theorem put_ok : ∀ {ts : List Tm} {ms : List Md} {us : List Tm} {ρ2 ρ3 : Ss} {vs : List V} {os2 oio : List Addr}, Sl G s.H s.fz pr ρ2 σ os2 → TmRs G s.H s.fz pr us (ioV ms vs) oio → (∀ (i : Nat) t v, ts[i]? = some t → vs[i]? = some v → ∀ j, t = .loc j → σ[j]? = some (some v)) → ts.length = vs.length → (os2 ++ oio).Nodup → putT ts ms us ρ2 = some ρ3 →
    ∃ os3, Sl G s.H s.fz pr ρ3 σ os3 ∧ os3.Nodup ∧ ∀ a ∈ os3, a ∈ os2 ∨ a ∈ oio
  | [], [], us, ρ2, ρ3, vs, os2, oio, h, hu, hv, hl, nd, e => by
    cases us with
    | nil => simp only [putT, Option.some.injEq] at e; subst e; rw [List.nodup_append] at nd; exact ⟨os2, h, nd.1, fun a ha => .inl ha⟩
    | cons u us => simp [putT] at e
  | [], m :: ms, us, ρ2, ρ3, vs, os2, oio, h, hu, hv, hl, nd, e => by cases m <;> simp [putT] at e
  | t :: ts, [], us, ρ2, ρ3, vs, os2, oio, h, hu, hv, hl, nd, e => by simp [putT] at e
  | t :: ts, .b :: ms, us, ρ2, ρ3, vs, os2, oio, h, hu, hv, hl, nd, e => by
    cases vs with
    | nil => simp at hl
    | cons v vs =>
      simp only [putT] at e
      exact put_ok (vs := vs) h (show TmRs G s.H s.fz pr us (ioV ms vs) oio from hu) (fun i t v h1 h2 => hv (i + 1) t v (by simpa using h1) (by simpa using h2)) (by simpa using hl) nd e
  | t :: ts, .f :: ms, us, ρ2, ρ3, vs, os2, oio, h, hu, hv, hl, nd, e => by
    cases vs with
    | nil => simp at hl
    | cons v vs =>
      simp only [putT] at e
      exact put_ok (vs := vs) h (show TmRs G s.H s.fz pr us (ioV ms vs) oio from hu) (fun i t v h1 h2 => hv (i + 1) t v (by simpa using h1) (by simpa using h2)) (by simpa using hl) nd e
  | t :: ts, .io :: ms, us, ρ2, ρ3, vs, os2, oio, h, hu, hv, hl, nd, e => by
    cases vs with
    | nil => simp at hl
    | cons v vs =>
      cases us with
      | nil => simp [putT] at e
      | cons u us =>
        simp only [ioV, TmRs] at hu
        obtain ⟨v', r, p1, p2, ev, rfl, h1, h2⟩ := hu
        cases ev
        have rest : ∀ {ρ : Ss} {os : List Addr}, Sl G s.H s.fz pr ρ σ os → (os ++ p2).Nodup → putT ts ms us ρ = some ρ3 → ∃ os3, Sl G s.H s.fz pr ρ3 σ os3 ∧ os3.Nodup ∧ ∀ a ∈ os3, a ∈ os ∨ a ∈ p2 := fun hs hn he =>
          put_ok hs h2 (fun i t v h1 h2 => hv (i + 1) t v (by simpa using h1) (by simpa using h2)) (by simpa using hl) hn he
        cases t with
        | loc j =>
          simp only [putT] at e
          split at e
          · rename_i hj
            obtain ⟨q1, q2, q3, rfl, hs⟩ := Sl.put h1 h hj
            have hvj := hv 0 (.loc j) v rfl rfl j rfl
            have e2 : σ.set j (some v) = σ := by
              apply List.ext_getElem?
              intro k
              by_cases hk : k = j
              · subst hk
                rw [List.getElem?_set_self (by have := (List.getElem?_eq_some_iff.mp hvj).1; exact this), hvj]
              · rw [List.getElem?_set_ne (Ne.symm hk)]
            rw [e2] at hs
            obtain ⟨os3, k1, k2, k3⟩ := rest hs (by simp only [List.nodup_append, List.mem_append] at nd ⊢; grind) e
            exact ⟨os3, k1, k2, fun a ha => by have := k3 a ha; simp only [List.mem_append] at this ⊢; grind⟩
          · cases e
        | v k d =>
          simp only [putT] at e
          obtain ⟨os3, k1, k2, k3⟩ := rest h (by simp only [List.nodup_append, List.mem_append] at nd ⊢; grind) e
          exact ⟨os3, k1, k2, fun a ha => by have := k3 a ha; simp only [List.mem_append] at this ⊢; grind⟩
        | tp ts' =>
          simp only [putT] at e
          obtain ⟨os3, k1, k2, k3⟩ := rest h (by simp only [List.nodup_append, List.mem_append] at nd ⊢; grind) e
          exact ⟨os3, k1, k2, fun a ha => by have := k3 a ha; simp only [List.mem_append] at this ⊢; grind⟩
        | ls ts' =>
          simp only [putT] at e
          obtain ⟨os3, k1, k2, k3⟩ := rest h (by simp only [List.nodup_append, List.mem_append] at nd ⊢; grind) e
          exact ⟨os3, k1, k2, fun a ha => by have := k3 a ha; simp only [List.mem_append] at this ⊢; grind⟩
        | ob c ts' =>
          simp only [putT] at e
          obtain ⟨os3, k1, k2, k3⟩ := rest h (by simp only [List.nodup_append, List.mem_append] at nd ⊢; grind) e
          exact ⟨os3, k1, k2, fun a ha => by have := k3 a ha; simp only [List.mem_append] at this ⊢; grind⟩
theorem TmTs.len : ∀ {ts : List Tm} {vs : List V} {ot : List Addr}, TmTs G pr σ s ts vs ot → ts.length = vs.length
  | [], vs, ot, h => by obtain ⟨rfl, _⟩ := h; rfl
  | t :: ts, vs, ot, h => by obtain ⟨v, r, o1, o2, rfl, rfl, _, h2⟩ := h; simp [TmTs.len h2]
theorem TmTs.loc : ∀ {ts : List Tm} {vs : List V} {ot : List Addr}, TmTs G pr σ s ts vs ot → ∀ (i : Nat) t v, ts[i]? = some t → vs[i]? = some v → ∀ j, t = .loc j → σ[j]? = some (some v)
  | [], vs, ot, h, i, t, v, h1, h2, j, e => by simp at h1
  | t0 :: ts, vs, ot, h, i, t, v, h1, h2, j, e => by
    obtain ⟨w, r, o1, o2, rfl, rfl, k1, k2⟩ := h
    cases i with
    | zero =>
      simp only [List.getElem?_cons_zero, Option.some.injEq] at h1 h2
      subst h1 h2 e
      exact k1.2
    | succ i => exact TmTs.loc k2 i t v (by simpa using h1) (by simpa using h2) j e
/-- the parameters' places that are given back -/
def ioPos : Nat → List Md → List Nat
  | _, [] => []
  | k, .io :: ms => k :: ioPos (k + 1) ms
  | k, _ :: ms => ioPos (k + 1) ms
def ioZip : Nat → List Md → List V → List (Nat × V)
  | k, .io :: ms, v :: vs => (k, v) :: ioZip (k + 1) ms vs
  | k, _ :: ms, _ :: vs => ioZip (k + 1) ms vs
  | _, _, _ => []
theorem ioZip_fst : ∀ (k : Nat) (ms : List Md) (vs : List V), ms.length = vs.length → (ioZip k ms vs).map Prod.fst = ioPos k ms
  | k, [], vs, h => by cases vs <;> rfl
  | k, m :: ms, [], h => by simp at h
  | k, m :: ms, v :: vs, h => by
    have h' : ms.length = vs.length := by simpa using h
    cases m <;> simp [ioZip, ioPos, ioZip_fst _ _ _ h']
theorem ioZip_snd : ∀ (k : Nat) (ms : List Md) (vs : List V), (ioZip k ms vs).map Prod.snd = ioV ms vs
  | k, [], vs => by cases vs <;> rfl
  | k, m :: ms, [] => by cases m <;> rfl
  | k, m :: ms, v :: vs => by cases m <;> simp [ioZip, ioV, ioZip_snd]
theorem ioZip_at : ∀ (k : Nat) (ms : List Md) (vs : List V), ∀ p ∈ ioZip k ms vs, ∃ j, p.1 = k + j ∧ vs[j]? = some p.2
  | k, [], vs, p, h => by cases vs <;> simp [ioZip] at h
  | k, m :: ms, [], p, h => by cases m <;> simp [ioZip] at h
  | k, m :: ms, v :: vs, p, h => by
    have go : p ∈ ioZip (k + 1) ms vs → ∃ j, p.1 = k + j ∧ (v :: vs)[j]? = some p.2 := fun h => by
      obtain ⟨j, e1, e2⟩ := ioZip_at (k + 1) ms vs p h
      exact ⟨j + 1, by omega, by simpa using e2⟩
    cases m with
    | b => exact go h
    | f => exact go h
    | io =>
      simp only [ioZip, List.mem_cons] at h
      rcases h with rfl | h
      · exact ⟨0, rfl, rfl⟩
      · exact go h
theorem pull_len : ∀ {ts : List Tm} {ms : List Md} {ρ : Ss} {q : List Tm × Ss}, pullT ts ms ρ = some q → ts.length = ms.length
  | [], [], ρ, q, e => rfl
  | [], m :: ms, ρ, q, e => by cases m <;> simp [pullT] at e
  | t :: ts, [], ρ, q, e => by simp [pullT] at e
  | t :: ts, .b :: ms, ρ, q, e => by simp only [pullT] at e; simp [pull_len e]
  | t :: ts, .f :: ms, ρ, q, e => by simp only [pullT] at e; simp [pull_len e]
  | t :: ts, .io :: ms, ρ, q, e => by
    have k : ∀ {ρ' : Ss} {o : Option (List Tm × Ss)}, pullT ts ms ρ' = o → o.isSome = true → ts.length = ms.length := fun h1 h2 => by
      obtain ⟨q', hq⟩ := Option.isSome_iff_exists.mp h2
      rw [hq] at h1
      exact pull_len h1
    cases t with
    | loc i =>
      simp only [pullT] at e
      split at e
      · split at e
        · rename_i e1
          simp [k e1 rfl]
        · cases e
      · cases e
    | v k' d => simp only [pullT] at e; split at e; · rename_i e1; simp [k e1 rfl]
                · cases e
    | tp _ => simp only [pullT] at e; split at e; · rename_i e1; simp [k e1 rfl]
              · cases e
    | ls _ => simp only [pullT] at e; split at e; · rename_i e1; simp [k e1 rfl]
              · cases e
    | ob _ _ => simp only [pullT] at e; split at e; · rename_i e1; simp [k e1 rfl]
                · cases e
/-- THE CALL: a promise by value, asked by the caller -/
theorem call_read {f : Fn} {ms : List Md} {ts : List Tm} {vs : List V} {ot : List Addr} {n : Nat} {E : XK} (hn : ms.length = n) (r1 : SR G pr io σ s1) (x1 : Ext s s1) (p1 : Tps G pr σ s1 ts vs ot) (f1 : Frs s ot)
    (hE : ∀ cls d H, W cls d σ H → E cls d H) (q : OuP G W pr io σ s (callF f ms ts s1.ρ) Q) : spV G n (ioPos 0 ms) f vs s1.H Q E := by
  unfold callF at q
  split at q
  · rename_i us ρ2 e1
    split at q
    · rename_i ps e2
      have nd0 : (s1.os ++ ot).Nodup := by
        rw [List.nodup_append]
        exact ⟨r1.nd, p1.nd, fun a ha b hb z => by subst z; exact (p1.sep a hb).2.2 ha⟩
      obtain ⟨os2, oio, otb, k1, k2, k3, k4, k5, k6, k7⟩ := pull_ok r1.sl p1.rel nd0 e1
      have hlen : ts.length = ms.length := pull_len e1
      have hlv : ts.length = vs.length := p1.rel.len
      have ownA : ∀ a, (a ∈ s1.os ∨ a ∈ ot) → Own s1.H a := fun a h => h.elim (r1.own a) (p1.rel.own a)
      have sepA : ∀ a, (a ∈ s1.os ∨ a ∈ ot) → ¬ s1.fz a ∧ ¬ pr a := fun a h => h.elim (r1.sep a) fun z => ⟨(p1.sep a z).1, (p1.sep a z).2.1⟩
      let pr' : Addr → Prop := fun a => s1.H a ≠ none ∧ a ∉ oio
      have dis : ∀ a ∈ oio, a ∉ os2 ∧ a ∉ otb := fun a ha => by simp only [List.nodup_append, List.mem_append] at k4; grind
      have hp : ∀ a, (pr a ∨ a ∈ os2 ∨ a ∈ otb) → s1.fz a ∨ pr' a := fun a h => by
        refine .inr ⟨?_, fun z => ?_⟩
        · rcases h with h | h | h
          · exact r1.dom a (.inr h)
          · exact (ownA a (.inl (k5 a h))).ne
          · exact (ownA a (.inr (k7 a h))).ne
        · rcases h with h | h | h
          · exact (sepA a (k6 a z)).2 h
          · exact (dis a z).1 h
          · exact (dis a z).2 h
      have hsl : Sl G s1.H s1.fz pr' (ps.map some) (vs.map some) oio := params_ok k1 hp k2 k3 (fun a h => h) e2
      have r0 : SR G pr' (ioZip 0 ms vs) (vs.map some) { H := s1.H, fz := s1.fz, os := oio, ρ := ps.map some } := by
        refine ⟨hsl, ?_, fun a ha => ⟨(sepA a (k6 a ha)).1, fun z => z.2 ha⟩, fun a h => ?_, fun p hp => ?_⟩
        · simp only [List.nodup_append] at k4; exact k4.2.1.1
        · rcases h with h | h
          · exact r1.dom a (.inl h)
          · exact h.1
        · obtain ⟨j, h1, h2⟩ := ioZip_at 0 ms vs p hp
          rw [h1, Nat.zero_add, List.getElem?_map, h2]
          rfl
      refine ⟨by rw [← hn, ← hlen, hlv], pr', ioZip 0 ms vs, { H := s1.H, fz := s1.fz, os := oio, ρ := ps.map some }, ps, rfl, ioZip_fst 0 ms vs (by rw [← hlen, hlv]), rfl, r0, ?_⟩
      rw [ioZip_snd]
      -- behind the call
      have back : ∀ {us' : List Tm} {ρ3 : Ss} {s' : Sx} {oio' : List Addr}, putT ts ms us' ρ2 = some ρ3 → Ext { H := s1.H, fz := s1.fz, os := oio, ρ := ps.map some } s' → (∀ a, (s'.fz a ∨ pr' a) → s'.H a ≠ none) → TmRs G s'.H s'.fz (fun _ => False) us' (ioV ms vs) oio' →
          oio'.Nodup → (∀ a ∈ oio', ¬ s'.fz a ∧ ¬ pr' a ∧ (a ∈ oio ∨ s1.H a = none)) → ∃ os3, SR G pr io σ { s' with ρ := ρ3, os := os3 } ∧ Ext s { s' with ρ := ρ3, os := os3 } ∧ ∀ a ∈ os3, a ∈ os2 ∨ a ∈ oio' := by
        intro us' ρ3 s' oio' e3 x' dom' hus nd' sep'
        have kp : ∀ a o, s1.H a = some o → a ∉ oio → s'.H a = some o := x'.keep
        have sl2 : Sl G s'.H s'.fz pr ρ2 σ os2 := Sl.keep x'.fz (fun a p => .inr p) x'.tk (fun a o p e => kp a o e fun z => by
          rcases p with p | p | p
          · exact (dis a z).1 p
          · exact (sepA a (k6 a z)).1 p
          · exact (sepA a (k6 a z)).2 p) k1
        have dis2 : ∀ a ∈ os2, a ∉ oio' := fun a ha hb => by
          rcases (sep' a hb).2.2 with z | z
          · exact (dis a z).1 ha
          · exact (ownA a (.inl (k5 a ha))).ne z
        have hus' : TmRs G s'.H s'.fz pr us' (ioV ms vs) oio' := TmRs.keep (fun _ h => h) (fun a p => p.elim) (Tk.refl _) _ _ _ (fun a o _ e => e) hus
        have nd2 : (os2 ++ oio').Nodup := by
          rw [List.nodup_append]
          simp only [List.nodup_append] at k4
          exact ⟨k4.1, nd', fun a ha b hb z => by subst z; exact dis2 a ha hb⟩
        obtain ⟨os3, m1, m2, m3⟩ := put_ok (s := s') sl2 hus' p1.rel.loc hlv nd2 e3
        refine ⟨os3, ⟨m1, m2, fun a ha => ?_, fun a h => ?_, r1.iov⟩, ⟨fun a o e n => ?_, fun a h => ?_, x1.tk.trans x'.tk, fun a h => x'.fz a (x1.fz a h), fun a h => ?_, fun a ha => ?_⟩, m3⟩
        · rcases m3 a ha with h | h
          · refine ⟨fun z => ?_, (sepA a (.inl (k5 a h))).2⟩
            rcases x'.fzo a z with y | y | y
            · exact (sepA a (.inl (k5 a h))).1 y
            · exact (dis a y).1 h
            · exact (ownA a (.inl (k5 a h))).ne y
          · refine ⟨(sep' a h).1, fun z => ?_⟩
            rcases (sep' a h).2.2 with y | y
            · exact (sepA a (k6 a y)).2 z
            · exact r1.dom a (.inr z) y
        · rcases h with h | h
          · exact dom' a (.inl h)
          · exact x'.dom a (r1.dom a (.inr h))
        · refine kp a o (x1.keep a o e n) fun z => ?_
          rcases k6 a z with y | y
          · rcases x1.oso a y with w | w
            · exact n w
            · rw [e] at w; cases w
          · rcases f1 a y with w | w
            · exact n w
            · rw [e] at w; cases w
        · exact x'.dom a (x1.dom a h)
        · rcases x'.fzo a h with y | y | y
          · exact x1.fzo a y
          · exact .inr ((k6 a y).elim (x1.oso a) (f1 a))
          · exact .inr (.inr (x1.back y))
        · rcases m3 a ha with h | h
          · exact x1.oso a (k5 a h)
          · rcases (sep' a h).2.2 with y | y
            · exact (k6 a y).elim (x1.oso a) (f1 a)
            · exact .inr (x1.back y)
      unfold FoP
      split at q
      · rename_i t us' ef
        split at q
        · rename_i ρ3 e3
          simp only [ef]
          intro v s' oio' ott x' dom' hus ht nd' sep'
          simp only [List.nodup_append] at nd'
          obtain ⟨os3, r3, x3, m3⟩ := back e3 x' dom' hus nd'.1 fun a ha => sep' a (List.mem_append_left _ ha)
          refine q v { s' with ρ := ρ3, os := os3 } ott rfl r3 x3 ⟨?_, nd'.2.1, fun a ha => ⟨(sep' a (List.mem_append_right _ ha)).1, fun z => ?_, fun z => ?_⟩⟩ fun a ha => ?_
          · exact loc_of (TmR.keep (fun _ h => h) (fun a p => p.elim) (Tk.refl _) _ _ _ (fun a o _ e => e) ht)
          · rcases (sep' a (List.mem_append_right _ ha)).2.2 with y | y
            · exact (sepA a (k6 a y)).2 z
            · exact r1.dom a (.inr z) y
          · rcases m3 a z with h | h
            · rcases (sep' a (List.mem_append_right _ ha)).2.2 with y | y
              · exact (dis a y).1 h
              · exact (ownA a (.inl (k5 a h))).ne y
            · exact nd'.2.2 a h a ha rfl
          · rcases (sep' a (List.mem_append_right _ ha)).2.2 with y | y
            · exact (k6 a y).elim (x1.oso a) (f1 a)
            · exact .inr (x1.back y)
        · exact q.elim
      · rename_i e us' ef
        split at q
        · rename_i ρ3 e3
          simp only [ef]
          intro cls d s' oio' x' dom' hus he nd' sep'
          obtain ⟨os3, r3, x3, m3⟩ := back e3 x' dom' hus nd' sep'
          exact hE _ _ _ (q cls d { s' with ρ := ρ3, os := os3 } rfl r3 x3 he)
        · exact q.elim
      · exact q.elim
    · exact q.elim
  · exact q.elim
variable {k : Nat} {fa : Addr} {fd : FuncData} {ps : List Str} {n : Nat} {fn : Fn} {ms : List Md} {x : Str} {p pos apos : Pos} {a o : Expr} {e : Expr} {es : List Expr} {gs : Ss → OuL} {ga : Ev}
theorem call_end {t : TA} (ht : t = tEvs G W ios gs) (hn : ms.length = n) {H : Hp} (q : tEv G W ios (eCall fn ms gs) σ H Q) : t σ H fun vs H1 => spV G n (ioPos 0 ms) fn vs H1 Q (WE W σ) := by
  subst ht
  obtain ⟨pr, io, s, rfl, hi, r, q⟩ := of_tEv q
  exact tEvs_of hi r (OuLP.bind0 q fun ts vs s1 ot r1 x1 p1 f1 q1 => call_read hn r1 x1 p1 f1 (fun _ _ _ h => h) q1)
/-- f(e, ..) -/
theorem v_call (F : FnG X.prog X.w X.K X.mg X.base k fa fd ps (spV G n (ioPos 0 ms) fn)) (hr : RoomG k X.A) (tk : L2N.Takes X W) (hm : X.mg x = some (.ref fa)) (hk : PySem.W.keepIn X.K (.ref fa) = true) (hb : Binds X.K fd ps []) (ha : PAv X G W ios (e :: es) gs)
    (hn : ms.length = n := by rfl) (hg : Gl X x := by rfl) (hdb : (x == ("__debug__" : Str)) = false := by decide) (he : starEach (e :: es) X.env = (false, eval e X.env) :: starEach es X.env := by rfl) (hpl : (backTo pos (starEach es X.env)).any (·.1) = false := by rfl) :
    PEv X G W ios (.Call (.Name x p) (e :: es) [] pos) (eCall fn ms gs) :=
  pe_imp (pe_callG (E := WE W) F hr hg hm hk hb (L2N.passAt tk) ha hdb he hpl) fun σ H Q q => call_end rfl hn q
end
end PV

namespace PV
open PySem PySem.Spec L2

/-! ### targets -/
abbrev Tg := Tm → Ss → Option Ss
/-- σ' is σ but for the names tv -/
def Out (σ σ' : L2.St) (tv : List Nat) : Prop := σ'.length = σ.length ∧ ∀ i, i ∉ tv → σ'[i]? = σ[i]?
def gTg (G : Gx) (ios tv : List Nat) (tgt : Tg) : TG := fun v σ H Q => ∃ pr io s0 s t ot, s.H = H ∧ io.map Prod.fst = ios ∧ SR G pr io σ s ∧ Ext s0 s ∧ Tp G pr σ s t v ot ∧ Frs s0 ot ∧ match tgt t s.ρ with
  | some ρ' => ∀ σ' s', s'.ρ = ρ' → SR G pr io σ' s' → Ext s0 s' → Out σ σ' tv → Q σ' s'.H
  | none => False
abbrev PGv (X : Cx) (G : Gx) (ios tv : List Nat) (e : Expr) (tgt : Tg) : Prop := PG X e (gTg G ios tv tgt)
/-- several targets, their values in flight -/
abbrev Tgs := List Tm → Ss → Option Ss
def gTgs (G : Gx) (ios tv : List Nat) (tgt : Tgs) : TGs := fun vs σ H Q => ∃ pr io s0 s ts ot, s.H = H ∧ io.map Prod.fst = ios ∧ SR G pr io σ s ∧ Ext s0 s ∧ (TmRs G s.H s.fz pr ts vs ot ∧ ot.Nodup ∧ ∀ a ∈ ot, ¬ s.fz a ∧ ¬ pr a ∧ a ∉ s.os) ∧ Frs s0 ot ∧ match tgt ts s.ρ with
  | some ρ' => ∀ σ' s', s'.ρ = ρ' → SR G pr io σ' s' → Ext s0 s' → Out σ σ' tv → Q σ' s'.H
  | none => False
abbrev PGsv (X : Cx) (G : Gx) (ios tv : List Nat) (e : List Expr) (tgt : Tgs) : Prop := PGs X e (gTgs G ios tv tgt)
theorem pg_imp {X : Cx} {x : Expr} {t t' : TG} (h : PG X x t) (i : ∀ v σ H Q, t' v σ H Q → t v σ H Q) : PG X x t' := ⟨fun pins s σ H v u Q I r q => h.run pins s σ H v u Q I r (i v σ H Q q)⟩
theorem pgs_imp {X : Cx} {x : List Expr} {t t' : TGs} (h : PGs X x t) (i : ∀ v σ H Q, t' v σ H Q → t v σ H Q) : PGs X x t' := ⟨fun pins s σ H v u Q I r q => h.run pins s σ H v u Q I r (i v σ H Q q)⟩
def tgN (i : Nat) : Tg := fun t ρ => if isLoc t = false ∧ i < ρ.length then some (ρ.set i (some t)) else none
def tgsNil : Tgs := fun ts ρ => match ts with
  | [] => some ρ
  | _ => none
def tgsCons (g : Tg) (gs : Tgs) : Tgs := fun ts ρ => match ts with
  | t :: ts => match g t ρ with
    | some ρ1 => gs ts ρ1
    | none => none
  | [] => none
/-- the parts of a tuple, a list -/
def partsT : Tm → Option (List Tm)
  | .v k (.tup xs) => some (xs.map (subK k))
  | .v k (.lst xs) => some (xs.map (subK k))
  | .tp ts => some ts
  | _ => none
def tgTup (gs : Tgs) : Tg := fun t ρ => match t with
  | .v k (.tup xs) => gs (xs.map (subK k)) ρ
  | .tp ts => gs ts ρ
  | _ => none
section
variable {G : Gx} {W : WX} {pr : Addr → Prop} {io : List (Nat × V)} {σ : L2.St} {s s1 : Sx} {ios : List Nat} {X : Cx} {a b c e : Expr} {pos p : Pos} {ga gb gc : Ev} {st : Stmt} {es : List Expr}
theorem g_name (i : Nat) {x : Str} (hN : X.N.Nodup) (hio : i ∉ ios) (hi : X.N[i]? = some x := by rfl) (hx : Loc X.env.scope x := by first | exact Or.inl rfl | exact Or.inr rfl) (hf : X.fn x = true ∨ X.env.scope.names.lookup x = some .local := by first | exact .inl rfl | exact .inr rfl | assumption) :
    PGv X G ios [i] (.Name x pos) (tgN i) := pg_imp (pg_name hN hi hx hf) fun v σ H Q q => by
  obtain ⟨pr, io, s0, s, t, ot, rfl, hi, r, x, p, f, q⟩ := q
  unfold tgN at q
  split at q
  · rename_i ρ' e
    split at e
    · rename_i hc
      cases e
      obtain ⟨os', r2, x2⟩ := r.store x p f hc.1 hc.2 (by rw [hi]; exact hio)
      exact q _ { s with ρ := s.ρ.set i (some t), os := os' } rfl r2 x2 ⟨List.length_set, fun j hj => List.getElem?_set_ne (by simpa using Ne.symm (by simpa using hj))⟩
    · cases e
  · exact q.elim
theorem gs_nil : PGsv X G ios [] [] tgsNil := pgs_imp pgs_nil fun v σ H Q q => by
  obtain ⟨pr, io, s0, s, ts, ot, rfl, hi, r, x, ⟨h, nd, sep⟩, f, q⟩ := q
  cases ts with
  | nil =>
    simp only [TmRs] at h
    exact ⟨h.1, q σ s rfl r x ⟨rfl, fun _ _ => rfl⟩⟩
  | cons t ts => exact q.elim
/-- what is in flight stands while other values in flight are stored -/
theorem tms_on {s' : Sx} {o1 o2 : List Addr} {ts : List Tm} {vs : List V} (h : TmRs G s.H s.fz pr ts vs o2) (sep : ∀ a ∈ o2, ¬ s.fz a ∧ ¬ pr a ∧ a ∉ s.os ∧ a ∉ o1) (r : SR G pr io σ s) (sep1 : ∀ a ∈ o1, ¬ s.fz a ∧ ¬ pr a) (x : Ext { s with os := s.os ++ o1 } s') :
    TmRs G s'.H s'.fz pr ts vs o2 ∧ ∀ a ∈ o2, ¬ s'.fz a ∧ ¬ pr a ∧ a ∉ s'.os := by
  have own := TmRs.own _ _ _ h
  refine ⟨TmRs.keep x.fz (fun a p => .inr p) x.tk _ _ _ (fun a o p e => x.keep a o e fun z => ?_) h, fun a ha => ⟨fun z => ?_, (sep a ha).2.1, fun z => ?_⟩⟩
  · rcases List.mem_append.mp z with z | z
    · rcases p with p | p | p
      · exact (sep a p).2.2.1 z
      · exact (r.sep a z).1 p
      · exact (r.sep a z).2 p
    · rcases p with p | p | p
      · exact (sep a p).2.2.2 z
      · exact (sep1 a z).1 p
      · exact (sep1 a z).2 p
  · rcases x.fzo a z with y | y | y
    · exact (sep a ha).1 y
    · rcases List.mem_append.mp y with y | y
      · exact (sep a ha).2.2.1 y
      · exact (sep a ha).2.2.2 y
    · exact (own a ha).ne y
  · rcases x.oso a z with y | y
    · rcases List.mem_append.mp y with y | y
      · exact (sep a ha).2.2.1 y
      · exact (sep a ha).2.2.2 y
    · exact (own a ha).ne y
theorem Ext.plus {s0 : Sx} {o1 : List Addr} (x : Ext s0 s) (f : Frs s0 o1) : Ext s0 { s with os := s.os ++ o1 } := ⟨x.keep, x.dom, x.tk, x.fz, x.fzo, fun a ha => (List.mem_append.mp ha).elim (x.oso a) (f a)⟩
theorem Ext.minus {o1 : List Addr} : Ext { s with os := s.os ++ o1 } s := ⟨fun _ _ h _ => h, fun _ h => h, Tk.refl _, fun _ h => h, fun _ h => .inl h, fun _ h => .inl (List.mem_append_left _ h)⟩
theorem Out.app {σ σ1 σ2 : L2.St} {t1 t2 : List Nat} (a : Out σ σ1 t1) (b : Out σ1 σ2 t2) : Out σ σ2 (t1 ++ t2) := ⟨b.1.trans a.1, fun i hi => by
  rw [List.mem_append, not_or] at hi
  exact (b.2 i hi.2).trans (a.2 i hi.1)⟩
theorem gs_cons {g : Tg} {gs : Tgs} {t1 t2 : List Nat} (h1 : PGv X G ios t1 e g) (h2 : PGsv X G ios t2 es gs) (hs : (assignEach (e :: es) X.env).map (·.2) = assign e X.env :: (assignEach es X.env).map (·.2) := by rfl) : PGsv X G ios (t1 ++ t2) (e :: es) (tgsCons g gs) := by
  refine pgs_imp (pgs_cons h1 h2 hs) fun v σ H Q q => ?_
  obtain ⟨pr, io, s0, s, ts, ot, rfl, hi, r, x, ⟨h, nd, sep⟩, f, q⟩ := q
  cases ts with
  | nil => exact q.elim
  | cons t ts =>
    simp only [TmRs] at h
    obtain ⟨v, vr, o1, o2, rfl, rfl, k1, k2⟩ := h
    simp only [tgsCons] at q
    cases eg : g t s.ρ with
    | none => rw [eg] at q; exact q.elim
    | some ρ1 =>
      rw [eg] at q
      rw [List.nodup_append] at nd
      have f1 : Frs s0 o1 := fun a ha => f a (List.mem_append_left _ ha)
      have f2 : Frs s0 o2 := fun a ha => f a (List.mem_append_right _ ha)
      have sep1 : ∀ a ∈ o1, ¬ s.fz a ∧ ¬ pr a ∧ a ∉ s.os := fun a ha => sep a (List.mem_append_left _ ha)
      refine ⟨v, vr, rfl, pr, io, { s with os := s.os ++ o1 }, s, t, o1, rfl, hi, r, Ext.minus, ⟨loc_of k1, nd.1, sep1⟩, fun a ha => .inl (List.mem_append_right _ ha), ?_⟩
      rw [eg]
      intro σ' s' e1 r' x' o'
      subst e1
      obtain ⟨k2', sep2⟩ := tms_on k2 (o1 := o1) (fun a ha => by
        have := sep a (List.mem_append_right _ ha)
        exact ⟨this.1, this.2.1, this.2.2, fun z => nd.2.2 a z a ha rfl⟩) r (fun a ha => ⟨(sep1 a ha).1, (sep1 a ha).2.1⟩) x'
      refine ⟨pr, io, s0, s', ts, o2, rfl, hi, r', (x.plus f1).trans x', ⟨k2', nd.2.1, sep2⟩, f2, ?_⟩
      dsimp only at q
      cases eg2 : gs ts s'.ρ with
      | none => rw [eg2] at q; exact q.elim
      | some ρ2 => rw [eg2] at q; exact fun σ2 s2 h1 h2 h3 h4 => q σ2 s2 h1 h2 h3 (o'.app h4)
theorem sub_reps {H : Hp} {fz : Addr → Prop} {k : Kd} : ∀ {xs : List D} {vs : List V}, Reps G H (if k = .B then fun a => fz a ∨ pr a else fz) xs vs → TmRs G H fz pr (xs.map (subK k)) vs []
  | [], vs, h => by simp only [Reps] at h; subst h; simp [TmRs]
  | x :: xs, vs, h => by
    simp only [Reps] at h
    obtain ⟨v, r, rfl, h1, h2⟩ := h
    simp only [List.map_cons, TmRs]
    refine ⟨v, r, [], [], rfl, rfl, ?_, sub_reps h2⟩
    cases k <;> simp only [subK, TmR] <;> exact ⟨trivial, by simpa using h1⟩
theorem g_tup {gs : Tgs} {kk n : Nat} {tv : List Nat} (hc : X.calm = true) (h : PGsv X G ios tv es gs) (hlen : ∀ ts ρ ρ', gs ts ρ = some ρ' → ts.length = n) (hn : (assignEach es X.env).length = n := by rfl) (hst : (assignEach es X.env).findIdx? (·.1) = none := by rfl) : PGv X G ios tv (.Tuple es kk pos) (tgTup gs) := by
  refine pg_imp (pg_tup hc h hn hst) fun v σ H Q q => ?_
  obtain ⟨pr, io, s0, s, t, ot, rfl, hi, r, x, p, f, q⟩ := q
  unfold tgTup at q
  cases t with
  | v k d =>
    cases d <;> simp only at q
    case tup xs =>
      have hx : TmR G s.H s.fz pr (.v k (.tup xs)) v ot := p.rel
      obtain ⟨a, vs, rfl, h1, h2⟩ := tup_all hx
      cases eg : gs (xs.map (subK k)) s.ρ with
      | none => rw [eg] at q; exact q.elim
      | some ρ' =>
        rw [eg] at q
        refine ⟨a, vs, rfl, .of h1, ?_, pr, io, s0, s, _, [], rfl, hi, r, x, ⟨sub_reps h2, .nil, fun a ha => by cases ha⟩, Frs.nil, ?_⟩
        · have := hlen _ _ _ eg
          rw [List.length_map] at this
          rw [← h2.len]; exact this
        · rw [eg]; exact q
    all_goals exact q.elim
  | tp ts =>
    have hx : TmR G s.H s.fz pr (.tp ts) v ot := p.rel
    simp only [TmR] at hx
    obtain ⟨a, vs, rfl, h1, h2⟩ := hx
    simp only at q
    cases eg : gs ts s.ρ with
    | none => rw [eg] at q; exact q.elim
    | some ρ' =>
      rw [eg] at q
      refine ⟨a, vs, rfl, .of h1, ?_, pr, io, s0, s, ts, ot, rfl, hi, r, x, ⟨h2, p.nd, p.sep⟩, f, ?_⟩
      · rw [← TmRs.len h2]; exact hlen _ _ _ eg
      · rw [eg]; exact q
  | loc i => exact q.elim
  | ls ts => exact q.elim
  | ob c ts => exact q.elim
theorem len_nil : ∀ (ts : List Tm) (ρ ρ' : Ss), tgsNil ts ρ = some ρ' → ts.length = 0 := fun ts ρ ρ' h => by
  cases ts with
  | nil => rfl
  | cons t ts => simp [tgsNil] at h
theorem len_cons {g : Tg} {gs : Tgs} {n : Nat} (h : ∀ ts ρ ρ', gs ts ρ = some ρ' → ts.length = n) : ∀ (ts : List Tm) (ρ ρ' : Ss), tgsCons g gs ts ρ = some ρ' → ts.length = n + 1 := fun ts ρ ρ' e => by
  cases ts with
  | nil => simp [tgsCons] at e
  | cons t ts =>
    simp only [tgsCons] at e
    split at e
    · simp [h _ _ _ e]
    · cases e
/-- target = e -/
def sAsg (tgt : Tg) (g : Ev) : Sm := fun ρ => (g ρ).toF fun t ρ1 => match tgt t ρ1 with
  | some ρ2 => .nx ρ2
  | none => .no
theorem s_asg {tg : Expr} {tgt : Tg} {tv : List Nat} (ha : PEv X G W ios a ga) (hg : PGv X G ios tv tg tgt) (hs : swapsWithSole [tg] a pos.line X.env = pure false := by rfl) (hw : swappedStores [tg] a X.env = pure none := by rfl)
    (h1 : (assignEach [tg] X.env).map (·.2) = [assign tg X.env] := by rfl) : PSv X G W ios (.Assign [tg] a pos) (sAsg tgt ga) := ps_imp (ps_asg ha hg hs hw h1) fun D σ H q => by
  obtain ⟨pr, io, s, rfl, hi, r, q⟩ := of_tSv q
  refine tEv_of hi r (FlP.toF q fun t v s1 ot r1 x1 p1 f1 q1 => ?_)
  refine ⟨pr, io, s, s1, t, ot, rfl, hi, r1, x1, p1, f1, ?_⟩
  cases e : tgt t s1.ρ with
  | none => rw [e] at q1; exact q1.elim
  | some ρ' => rw [e] at q1; exact fun σ' s' h1 h2 h3 _ => q1 σ' s' h1 h2 h3

/-! ### for -/
def forL (tgt : Tg) (body : Sm) : List Tm → Ss → Fl
  | [], ρ => .nx ρ
  | t :: ts, ρ => match tgt t ρ with
    | some ρ1 => match body ρ1 with
      | .nx ρ2 => forL tgt body ts ρ2
      | .ct ρ2 => forL tgt body ts ρ2
      | .bk ρ2 => .nx ρ2
      | o => o
    | none => .no
/-- what is walked: a value in flight, the items -/
abbrev Iv := Ss → OuL
def sFor (it : Iv) (tgt : Tg) (body : Sm) : Sm := fun ρ => match it ρ with
  | .ok ts ρ1 => forL tgt body ts ρ1
  | .ex e ρ1 => .ex e ρ1
  | .no => .no
/-- what is asked of the walked thing: a walk of those items -/
def tIv (G : Gx) (W : WX) (ios : List Nat) (g : Iv) : TI := fun σ H R => ∃ pr io s, s.H = H ∧ io.map Prod.fst = ios ∧ SR G pr io σ s ∧ match g s.ρ with
  | .ok ts ρ' => ∀ J s1, s1.ρ = ρ' → SR G pr io σ s1 → Ext s s1 → (∃ Gd Y, Walk J ts.length Gd Y ∧ ∀ s2 σ2, SR G pr io σ2 s2 → Ext s1 s2 → Gd s2.H ∧ ∀ i x H', i < ts.length → Y i s2.H x H' →
      ∃ s3 t, s3.H = H' ∧ s3.ρ = s2.ρ ∧ SR G pr io σ2 s3 ∧ Ext s2 s3 ∧ ts[i]? = some t ∧ Tp G pr σ2 s3 t x []) → R J s1.H
  | .ex e ρ' => ∀ cls d s', s'.ρ = ρ' → SR G pr io σ s' → Ext s s' → ErR G s'.H s'.fz e cls d → W cls d σ s'.H
  | .no => False
abbrev PIv (X : Cx) (G : Gx) (W : WX) (ios : List Nat) (tg it : Expr) (g : Iv) : Prop := PI X tg it (tIv G W ios g)
theorem s_for {tg iter : Expr} {body : List Stmt} {it : Iv} {tgt : Tg} {gb : Sm} {tv : List Nat} (hp : PassesOwn (model X.prog X.w) X.A X.env X.xe) (hc : X.calm = true) (hit : PIv X G W ios tg iter it) (hg : PGv X G ios tv tg tgt) (hb : PBv X G W ios body gb)
    (hs : ∀ x, foldedSetIterable iter X.env x = pure x := by intro _; rfl) : PSv X G W ios (.For tg iter body [] pos) (sFor it tgt gb) := ps_imp (ps_for hp hc hit hg hb hs) fun D σ H q => by
  obtain ⟨pr, io, s, rfl, hi, r, q⟩ := of_tSv q
  refine ⟨pr, io, s, rfl, hi, r, ?_⟩
  unfold sFor at q
  cases e : it s.ρ with
  | no => rw [e] at q; exact q.elim
  | ex e' ρ' => rw [e] at q; exact fun cls d s' h1 h2 h3 h4 => q cls d σ s' h1 h2 h3 h4
  | ok ts ρ' =>
    rw [e] at q
    simp only at q
    intro J s1 e1 r1 x1 ⟨Gd, Y, w, hw⟩
    subst e1
    refine for_it w (fun i σ2 H2 => ∃ s2, s2.H = H2 ∧ SR G pr io σ2 s2 ∧ Ext s1 s2 ∧ FlP G W pr io s2 (forL tgt gb (ts.drop i) s2.ρ) D) ⟨s1, rfl, r1, Ext.refl _, by simpa using FlP.later q x1⟩ ?_ ?_ ?_
    · rintro i σ2 H2 _ ⟨s2, rfl, r2, x2, _⟩
      exact (hw s2 σ2 r2 x2).1
    · rintro i x σ2 H2 H' hlt ⟨s2, rfl, r2, x2, q2⟩ y
      obtain ⟨s3, t, rfl, e3, r3, x3, e4, p3⟩ := (hw s2 σ2 r2 x2).2 i x H' hlt y
      have ed : ts.drop i = t :: ts.drop (i + 1) := by
        rw [List.drop_eq_getElem_cons hlt]
        rw [List.getElem?_eq_getElem hlt] at e4
        cases e4
        rfl
      rw [ed] at q2
      simp only [forL] at q2
      refine ⟨pr, io, s3, s3, t, [], rfl, hi, r3, Ext.refl _, p3, Frs.nil, ?_⟩
      rw [← e3] at q2
      cases eg : tgt t s3.ρ with
      | none => rw [eg] at q2; exact q2.elim
      | some ρ1 =>
        rw [eg] at q2
        intro σ4 s4 e4 r4 x4 _
        subst e4
        refine tSv_of hi r4 ?_
        have q4 := FlP.later q2 (x3.trans x4)
        dsimp only at q4
        have x14 : Ext s1 s4 := (x2.trans x3).trans x4
        cases eb : gb s4.ρ with
        | nx ρ' => rw [eb] at q4; exact fun σ5 s5 e5 r5 x5 => by subst e5; exact ⟨s5, rfl, r5, x14.trans x5, FlP.later q4 x5⟩
        | ct ρ' => rw [eb] at q4; exact fun σ5 s5 e5 r5 x5 => by subst e5; exact ⟨s5, rfl, r5, x14.trans x5, FlP.later q4 x5⟩
        | bk ρ' => rw [eb] at q4; exact q4
        | rt t' ρ' => rw [eb] at q4; exact q4
        | ex e' ρ' => rw [eb] at q4; exact q4
        | no => rw [eb] at q4; exact q4
    · rintro σ2 H2 ⟨s2, rfl, r2, x2, q2⟩
      rw [List.drop_length] at q2
      exact q2 σ2 s2 rfl r2 (Ext.refl _)
end
end PV

namespace PV
open PySem PySem.Spec L2

section
variable {G : Gx} {W : WX} {pr : Addr → Prop} {io : List (Nat × V)} {σ : L2.St} {s s1 : Sx} {ios : List Nat} {X : Cx} {a b c e tg : Expr} {pos p : Pos} {ga gb gc : Ev}

/-! ### what is walked -/
/-- a list or a tuple, by the expression's value -/
def iSeq (K : PySem.W.Frag) (tl : TE) : TI := fun σ H R => tl σ H fun x H1 => ∃ a, x = .ref a ∧ (((∃ xs, SqL K H1 a xs) ∧ R (Itl K a) H1) ∨ ((∃ xs, SqT K H1 a xs) ∧ R (Itt K a) H1))
theorem pi_seq {l : Expr} {tl : TE} (hl : PE X l tl) : PI X tg l (iSeq X.K tl) := by
  refine ⟨fun pins s σ H R I h => ?_⟩
  refine thn (hl.run pins s σ H _ I h) fun v s1 ⟨x, H1, I1, r1, q1⟩ => ?_
  obtain ⟨a, e, ⟨⟨xs, hq⟩, q⟩ | ⟨⟨xs, hq⟩, q⟩⟩ := q1
  · subst e
    cases r1
    obtain ⟨its, rv, p, hz⟩ := I1.list hq
    refine wpAny_pyIter_list p.isList ?_
    refine ⟨s1.heap.objs.size, [s1.heap.objs.size], _, _, H1, rfl, I1.kept (t' := s1.toks) fun b o e => Heap.get?_push_of_some _ e, turn_list a _, ⟨_, Heap.get?_push_size _ rfl, rfl, rfl⟩, fun b hb => ?_, q⟩
    have e : b = s1.heap.objs.size := by simpa using hb
    subst e
    exact I1.fpOk (Nat.le_refl _) (I1.hok.fresh (Nat.le_refl _))
  · subst e
    cases r1
    obtain ⟨its, rv, p, hz⟩ := I1.tuple hq
    refine wpAny_pyIter_tuple (show s1.heap.IsTuple a its.toArray from p) ?_
    refine ⟨s1.heap.objs.size, [s1.heap.objs.size], _, _, H1, rfl, I1.kept (t' := s1.toks) fun b o e => Heap.get?_push_of_some _ e, turn_tuple a _, ⟨_, Heap.get?_push_size _ rfl, rfl, rfl⟩, fun b hb => ?_, q⟩
    have e : b = s1.heap.objs.size := by simpa using hb
    subst e
    exact I1.fpOk (Nat.le_refl _) (I1.hok.fresh (Nat.le_refl _))
/-- items of a list or tuple that stands still -/
def itemsT : Tm → Option (List Tm)
  | .v k (.lst xs) => some (xs.map (subK k))
  | .v k (.tup xs) => some (xs.map (subK k))
  | _ => none
/-- for x in (a list, a tuple): one that no name owns -/
def itSeq (g : Ev) : Iv := fun ρ => (g ρ).bindL fun t ρ1 => match itemsT t with
  | some ts => .ok ts ρ1
  | none => .no
theorem sub_tm {H : Hp} {fz : Addr → Prop} {k : Kd} {d : D} {v : V} (h : Rep G H (if k = .B then fun a => fz a ∨ pr a else fz) d v) : TmR G H fz pr (subK k d) v [] := by
  cases k <;> simp only [subK, TmR] <;> exact ⟨trivial, by simpa using h⟩
theorem tp_sub {k : Kd} {d : D} {v : V} (h : Rep G s.H (if k = .B then fun a => s.fz a ∨ pr a else s.fz) d v) : Tp G pr σ s (subK k d) v [] := ⟨loc_of (sub_tm h), .nil, fun a ha => by cases ha⟩
/-- the data in flight stands still through what comes later -/
theorem Tp.reps {k : Kd} {xs : List D} {vs : List V} {v : V} {ot : List Addr} {s2 : Sx} (r1 : SR G pr io σ s1) (h : Reps G s1.H (if k = .B then fun a => s1.fz a ∨ pr a else s1.fz) xs vs) (x : Ext s1 s2) : Reps G s2.H (if k = .B then fun a => s2.fz a ∨ pr a else s2.fz) xs vs := by
  refine Reps.keep (fun a p => ?_) (fun a o p e => x.keep a o e fun z => ?_) x.tk _ _ h
  · by_cases hk : k = .B
    · rw [if_pos hk] at p ⊢; exact p.imp (x.fz a) id
    · rw [if_neg hk] at p ⊢; exact x.fz a p
  · by_cases hk : k = .B
    · rw [if_pos hk] at p; exact p.elim (r1.sep a z).1 (r1.sep a z).2
    · rw [if_neg hk] at p; exact (r1.sep a z).1 p
theorem i_seq (ha : PEv X G W ios a ga) (hK : G.K = X.K) : PIv X G W ios tg a (itSeq ga) := by
  refine ⟨fun pins s σ H R I q => (pi_seq (tg := tg) ha).run pins s σ H R I ?_⟩
  obtain ⟨pr, io, s, rfl, hi, r, q⟩ := q
  have q' : OuLP G W pr io σ s ((ga s.ρ).bindL fun t ρ1 => match itemsT t with | some ts => .ok ts ρ1 | none => .no) (fun _ _ => True) ∨ True := .inr trivial
  refine tEv_of hi r ?_
  unfold itSeq at q
  cases eg : ga s.ρ with
  | no => rw [eg] at q; exact q.elim
  | ex e ρ' => rw [eg] at q; exact q
  | ok t ρ' =>
    rw [eg] at q
    intro v s1 ot e1 r1 x1 p1 f1
    subst e1
    simp only [Ou.bindL] at q
    cases t with
    | v k d =>
      cases d <;> simp only [itemsT] at q
      case tup xs =>
        obtain ⟨a, vs, rfl, h1, h2⟩ := tup_all (show TmR G s1.H s1.fz pr (.v k (.tup xs)) v ot from p1.rel)
        refine ⟨a, rfl, .inr ⟨⟨vs, .of h1⟩, q _ s1 rfl r1 x1 ⟨fun H => SqT X.K H a vs, YAt vs, ?_, fun s2 σ2 r2 x2 => ⟨SqT.of (x2.tk.1 _ _ h1), fun i x H' hlt y => ?_⟩⟩⟩⟩
        · rw [List.length_map, h2.len]; exact walk_tup
        · obtain ⟨rfl, hx⟩ := y
          rw [List.length_map] at hlt
          have h2' := Tp.reps (v := .non) (ot := []) r1 h2 x2
          obtain ⟨w, hw, hd⟩ := h2'.get (List.getElem?_eq_getElem hlt)
          rw [hx] at hw; cases hw
          exact ⟨s2, _, rfl, rfl, r2, Ext.refl _, by rw [List.getElem?_map, List.getElem?_eq_getElem hlt]; rfl, tp_sub hd⟩
      case lst xs =>
        obtain ⟨a, vs, rfl, h1, h2⟩ := lst_all (show TmR G s1.H s1.fz pr (.v k (.lst xs)) v ot from p1.rel)
        have hno : a ∉ s1.os := by
          have hh : TmR G s1.H s1.fz pr (.v k (.lst xs)) (.ref a) ot := p1.rel
          cases k with
          | F =>
            simp only [TmR, Rep] at hh
            obtain ⟨_, b, _, eb, hb, _⟩ := hh
            cases eb
            exact fun z => (r1.sep a z).1 hb
          | B =>
            simp only [TmR, Rep] at hh
            obtain ⟨_, b, _, eb, hb, _⟩ := hh
            cases eb
            exact fun z => hb.elim (r1.sep a z).1 (r1.sep a z).2
          | O =>
            simp only [TmR, RepO] at hh
            obtain ⟨b, _, eb, hb, _⟩ := hh
            cases eb
            exact (p1.sep a (by rw [hb]; simp)).2.2
        refine ⟨a, rfl, .inl ⟨⟨vs, .of h1⟩, q _ s1 rfl r1 x1 ⟨fun H => SqL X.K H a vs, YAt vs, ?_, fun s2 σ2 r2 x2 => ⟨SqL.of (x2.keep _ _ h1 hno), fun i x H' hlt y => ?_⟩⟩⟩⟩
        · rw [List.length_map, h2.len]; exact walk_list
        · obtain ⟨rfl, hx⟩ := y
          rw [List.length_map] at hlt
          have h2' := Tp.reps (v := .non) (ot := []) r1 h2 x2
          obtain ⟨w, hw, hd⟩ := h2'.get (List.getElem?_eq_getElem hlt)
          rw [hx] at hw; cases hw
          exact ⟨s2, _, rfl, rfl, r2, Ext.refl _, by rw [List.getElem?_map, List.getElem?_eq_getElem hlt]; rfl, tp_sub hd⟩
      all_goals exact q.elim
    | loc i => exact q.elim
    | tp ts => exact q.elim
    | ls ts => exact q.elim
    | ob c ts => exact q.elim
/-- range(n), range(lo, hi) -/
def rngL (lo : Int) (n : Nat) : List Tm := (List.range n).map fun (i : Nat) => Tm.v .F (.int (lo + (i : Int)))
def itR1 (g : Ev) : Iv := fun ρ => (g ρ).bindL fun t ρ1 => match asI t with
  | some j => if -(2 ^ 62) ≤ j ∧ j < 2 ^ 62 then .ok (rngL 0 j.toNat) ρ1 else .no
  | none => .no
def itR2 (ga gb : Ev) : Iv := fun ρ => (ga ρ).bindL fun t ρ1 => (gb ρ1).bindL fun u ρ2 => match asI t, asI u with
  | some i, some j => if -(2 ^ 62) ≤ i ∧ i < 2 ^ 62 ∧ -(2 ^ 62) ≤ j ∧ j < 2 ^ 62 then .ok (rngL i (j - i).toNat) ρ2 else .no
  | _, _ => .no
theorem walk_rng {lo : Int} {n : Nat} : ∃ Gd Y, Walk (Itr lo n) (rngL lo n).length Gd Y ∧ ∀ s2 σ2, SR G pr io σ2 s2 → Ext s1 s2 → Gd s2.H ∧ ∀ i x H', i < (rngL lo n).length → Y i s2.H x H' →
      ∃ s3 t, s3.H = H' ∧ s3.ρ = s2.ρ ∧ SR G pr io σ2 s3 ∧ Ext s2 s3 ∧ (rngL lo n)[i]? = some t ∧ Tp G pr σ2 s3 t x [] := by
  have hl : (rngL lo n).length = n := by simp [rngL]
  refine ⟨_, _, by rw [hl]; exact walk_range, fun s2 σ2 r2 x2 => ⟨trivial, fun i x H' hlt y => ?_⟩⟩
  rw [hl] at hlt
  obtain ⟨rfl, rfl⟩ := y
  refine ⟨s2, .v .F (.int (lo + i)), rfl, rfl, r2, Ext.refl _, by simp [rngL, hlt], ⟨?_, .nil, fun a ha => by cases ha⟩⟩
  show TmR _ _ _ _ _ _ _
  simp only [TmR, Rep]
  exact ⟨trivial, trivial⟩
theorem i_r1 (hm : X.mg "range" = none) (ha : PEv X G W ios a ga) (hg : Gl X "range" := by rfl) (hs : starEach [a] X.env = [(false, eval a X.env)] := by rfl) : PIv X G W ios tg (.Call (.Name "range" p) [a] [] pos) (itR1 ga) := by
  refine ⟨fun pins s σ H R I q => (pi_range1 (tg := tg) hg hm (pa_cons ha pa_nil hs) hs).run pins s σ H R I ?_⟩
  obtain ⟨pr, io, s, rfl, hi, r, q⟩ := q
  refine tEv_of hi r ?_
  unfold itR1 at q
  cases eg : ga s.ρ with
  | no => rw [eg] at q; exact q.elim
  | ex e ρ' => rw [eg] at q; exact q
  | ok t ρ' =>
    rw [eg] at q
    intro v s1 ot e1 r1 x1 p1 f1
    subst e1
    simp only [Ou.bindL] at q
    cases ei : asI t with
    | none => rw [ei] at q; exact q.elim
    | some j =>
      rw [ei] at q
      have ev := asI_of p1 ei
      subst ev
      simp only at q
      by_cases hj : -(2 ^ 62) ≤ j ∧ j < 2 ^ 62
      · rw [if_pos hj] at q
        exact ⟨j, rfl, hj.1, hj.2, q _ s1 rfl r1 x1 walk_rng⟩
      · rw [if_neg hj] at q
        exact q.elim
/-! ### while -/
def whileN : Nat → Ev → Sm → Ss → Fl
  | 0, _, _, _ => .no
  | n + 1, gc, gb, ρ => (gc ρ).toF fun t ρ1 => match asB t with
    | some true => match gb ρ1 with
      | .nx ρ2 => whileN n gc gb ρ2
      | .ct ρ2 => whileN n gc gb ρ2
      | .bk ρ2 => .nx ρ2
      | o => o
    | some false => .nx ρ1
    | none => .no
def sWhile (n : Nat) (gc : Ev) (gb : Sm) : Sm := whileN n gc gb
theorem s_while {body : List Stmt} {gb : Sm} {n : Nat} (hp : PassesOwn (model X.prog X.w) X.A X.env X.xe) (hc : PTv X G W ios c gc) (hb : PBv X G W ios body gb) : PSv X G W ios (.While c body [] pos) (sWhile n gc gb) := ps_imp (ps_while hp hc hb) fun D σ H q => by
  obtain ⟨pr, io, s, rfl, hi, r, q⟩ := of_tSv q
  refine ⟨fun m σ2 H2 => ∃ s2, s2.H = H2 ∧ SR G pr io σ2 s2 ∧ Ext s s2 ∧ FlP G W pr io s2 (whileN m gc gb s2.ρ) D, ⟨n, s, rfl, r, Ext.refl s, q⟩, ?_⟩
  rintro m σ2 H2 ⟨s2, rfl, r2, x2, q2⟩
  cases m with
  | zero => exact q2.elim
  | succ m =>
    show tEv G W ios gc σ2 s2.H (fun x H' => ∃ k, x = .bl k ∧ _)
    refine tEv_of hi r2 (FlP.toF q2 fun t v s3 ot r3 x3 p3 f3 q3 => ?_)
    cases e : asB t with
    | none => rw [e] at q3; exact q3.elim
    | some k =>
      rw [e] at q3
      refine ⟨k, asB_of p3 e, ?_⟩
      have q4 := FlP.later q3 x3
      cases k with
      | false => exact iteF (q4 σ2 s3 rfl r3 (Ext.refl _))
      | true =>
        refine iteT ⟨fun σ' H' => ∃ s5, s5.H = H' ∧ SR G pr io σ' s5 ∧ Ext s s5 ∧ FlP G W pr io s5 (whileN m gc gb s5.ρ) D, fun σ' H' h => ⟨m, Nat.lt_succ_self m, h⟩, ?_⟩
        refine tSv_of hi r3 ?_
        dsimp only at q4
        have x13 := x2.trans x3
        cases eb : gb s3.ρ with
        | nx ρ' => rw [eb] at q4; exact fun σ5 s5 e5 r5 x5 => by subst e5; exact ⟨s5, rfl, r5, x13.trans x5, FlP.later q4 x5⟩
        | ct ρ' => rw [eb] at q4; exact fun σ5 s5 e5 r5 x5 => by subst e5; exact ⟨s5, rfl, r5, x13.trans x5, FlP.later q4 x5⟩
        | bk ρ' => rw [eb] at q4; exact q4
        | rt t' ρ' => rw [eb] at q4; exact q4
        | ex e' ρ' => rw [eb] at q4; exact q4
        | no => rw [eb] at q4; exact q4
end
end PV

namespace PV
open PySem PySem.Spec L2

/-! ### comprehensions -/
def wipeS (ρ : Ss) : List Nat → Ss
  | [] => ρ
  | v :: vs => (wipeS ρ vs).set v none
/-- the block's own names get back what they held outside -/
def restS (ρ0 ρ : Ss) : List Nat → Ss
  | [] => ρ
  | v :: vs => (restS ρ0 ρ vs).set v (match ρ0[v]? with | some o => o | none => none)
def hideOk (ρ : Ss) (v : Nat) : Bool := match ρ[v]? with
  | some none => true
  | some (some (.v .F _)) => true
  | some (some (.v .B _)) => true
  | _ => false
def compL (tgt : Tg) (test elt : Ev) (vs : List Nat) : List Tm → Ss → Option (List D × Ss)
  | [], ρ => some ([], wipeS ρ vs)
  | t :: ts, ρ => match tgt t (wipeS ρ vs) with
    | some ρ1 => match test ρ1 with
      | .ok b ρ2 => match asB b with
        | some true => match elt ρ2 with
          | .ok x ρ3 => match frz x with
            | some d => match compL tgt test elt vs ts ρ3 with
              | some (ds, ρ4) => some (d :: ds, ρ4)
              | none => none
            | none => none
          | _ => none
        | some false => compL tgt test elt vs ts ρ2
        | none => none
      | _ => none
    | none => none
def eTrue : Ev := fun ρ => .ok (.v .F (.bl true)) ρ
def eComp (it : Iv) (vs : List Nat) (tgt : Tg) (test elt : Ev) : Ev := fun ρ => match it ρ with
  | .ok ts ρ1 => if vs.all (hideOk ρ1) = true then match compL tgt test elt vs ts ρ1 with
    | some (ds, ρ2) => if ds.length ≤ sizeLine then .ok (.v .O (.lst ds)) (restS ρ1 ρ2 vs) else .no
    | none => .no
    else .no
  | .ex e ρ1 => .ex e ρ1
  | .no => .no
abbrev W0 : WX := fun _ _ _ _ => False
theorem takesW0 {X : Cx} : L2N.Takes X W0 := fun _ _ x => by
  obtain ⟨_, _, _, _, _, _, _, _, _, _, _, _, _, _, _, _, z⟩ := x
  exact z.elim
section
variable {G : Gx} {W : WX} {pr : Addr → Prop} {io : List (Nat × V)} {σ : L2.St} {s s1 : Sx} {ios : List Nat} {X : Cx} {a b c e tg : Expr} {pos p : Pos} {ga gb gc : Ev}
/-- a name forgotten -/
theorem Sl.forget {H : Hp} {fz : Addr → Prop} : ∀ {ρ : Ss} {σ : L2.St} {os : List Addr} (i : Nat), Sl G H fz pr ρ σ os → ∃ os', Sl G H fz pr (ρ.set i none) (σ.set i none) os' ∧ (∀ a ∈ os', a ∈ os) ∧ (os.Nodup → os'.Nodup)
  | [], σ, os, i, h => by simp only [Sl] at h; obtain ⟨rfl, rfl⟩ := h; exact ⟨[], by simp [Sl], fun a ha => ha, id⟩
  | none :: ρ, σ, os, 0, h => by
    simp only [Sl] at h
    obtain ⟨x, r, rfl, h⟩ := h
    exact ⟨os, by simp only [List.set_cons_zero, Sl]; exact ⟨_, r, rfl, h⟩, fun a ha => ha, id⟩
  | none :: ρ, σ, os, i + 1, h => by
    simp only [Sl] at h
    obtain ⟨x, r, rfl, h⟩ := h
    obtain ⟨os', k1, k2, k3⟩ := Sl.forget i h
    exact ⟨os', by simp only [List.set_cons_succ, Sl]; exact ⟨x, _, rfl, k1⟩, k2, k3⟩
  | some t :: ρ, σ, os, 0, h => by
    simp only [Sl] at h
    obtain ⟨v, r, o1, o2, rfl, rfl, h1, h2⟩ := h
    exact ⟨o2, by simp only [List.set_cons_zero, Sl]; exact ⟨_, r, rfl, h2⟩, fun a ha => List.mem_append_right _ ha, fun nd => (List.nodup_append.mp nd).2.1⟩
  | some t :: ρ, σ, os, i + 1, h => by
    simp only [Sl] at h
    obtain ⟨v, r, o1, o2, rfl, rfl, h1, h2⟩ := h
    obtain ⟨os', k1, k2, k3⟩ := Sl.forget i h2
    refine ⟨o1 ++ os', by simp only [List.set_cons_succ, Sl]; exact ⟨v, _, o1, os', rfl, rfl, h1, k1⟩, fun a ha => ?_, fun nd => ?_⟩
    · rcases List.mem_append.mp ha with h | h
      · exact List.mem_append_left _ h
      · exact List.mem_append_right _ (k2 a h)
    · rw [List.nodup_append] at nd ⊢
      exact ⟨nd.1, k3 nd.2.1, fun a ha b hb => nd.2.2 a ha b (k2 b hb)⟩
theorem Sl.wipe {H : Hp} {fz : Addr → Prop} {ρ : Ss} {σ : L2.St} {os : List Addr} (h : Sl G H fz pr ρ σ os) : ∀ vs, ∃ os', Sl G H fz pr (wipeS ρ vs) (L2.wipe σ vs) os' ∧ (∀ a ∈ os', a ∈ os) ∧ (os.Nodup → os'.Nodup)
  | [] => ⟨os, h, fun a ha => ha, id⟩
  | v :: vs => by
    obtain ⟨os', k1, k2, k3⟩ := Sl.wipe h vs
    obtain ⟨os2, m1, m2, m3⟩ := Sl.forget v k1
    exact ⟨os2, m1, fun a ha => k2 a (m2 a ha), fun nd => m3 (k3 nd)⟩
theorem wipe_get {σ : L2.St} {i : Nat} : ∀ {vs : List Nat}, i ∉ vs → (L2.wipe σ vs)[i]? = σ[i]?
  | [], _ => rfl
  | v :: vs, h => by
    rw [List.mem_cons, not_or] at h
    show ((L2.wipe σ vs).set v none)[i]? = _
    rw [List.getElem?_set_ne (Ne.symm h.1), wipe_get h.2]
theorem SR.wipe (r : SR G pr io σ s) {vs : List Nat} (hio : ∀ v ∈ vs, v ∉ io.map Prod.fst) : ∃ os', SR G pr io (L2.wipe σ vs) { s with ρ := wipeS s.ρ vs, os := os' } ∧ ∀ a ∈ os', a ∈ s.os := by
  obtain ⟨os', k1, k2, k3⟩ := r.sl.wipe vs
  refine ⟨os', ⟨k1, k3 r.nd, fun a ha => r.sep a (k2 a ha), r.dom, fun p hp => ?_⟩, k2⟩
  rw [wipe_get fun z => hio p.1 z (List.mem_map_of_mem hp)]
  exact r.iov p hp
/-- slots exchanged for such as nobody owns -/
theorem Sl.mix {H : Hp} {fz : Addr → Prop} : ∀ {ρ ρf : Ss} {σ σf : L2.St} {os : List Addr}, Sl G H fz pr ρ σ os → ρf.length = ρ.length → σf.length = σ.length →
    (∀ i, i < ρ.length → (ρf[i]? = ρ[i]? ∧ σf[i]? = σ[i]?) ∨ ∃ o x, ρf[i]? = some o ∧ σf[i]? = some x ∧ ∀ t, o = some t → ∃ v, x = some v ∧ TmR G H fz pr t v []) → ∃ os', Sl G H fz pr ρf σf os' ∧ (∀ a ∈ os', a ∈ os) ∧ (os.Nodup → os'.Nodup)
  | [], ρf, σ, σf, os, h, h1, h2, hi => by
    simp only [Sl] at h
    obtain ⟨rfl, rfl⟩ := h
    have e1 : ρf = [] := by simpa using h1
    have e2 : σf = [] := by simpa using h2
    subst e1 e2
    exact ⟨[], by simp [Sl], fun a ha => ha, id⟩
  | o0 :: ρ, ρf, σ, σf, os, h, h1, h2, hi => by
    have tail : ∃ y r os2, σ = y :: r ∧ Sl G H fz pr ρ r os2 ∧ (∀ a ∈ os2, a ∈ os) ∧ (os.Nodup → os2.Nodup) := by
      cases o0 with
      | none => simp only [Sl] at h; obtain ⟨y, r, rfl, h⟩ := h; exact ⟨y, r, os, rfl, h, fun a ha => ha, id⟩
      | some t => simp only [Sl] at h; obtain ⟨v, r, o1, o2, rfl, rfl, h1, h2⟩ := h; exact ⟨_, r, o2, rfl, h2, fun a ha => List.mem_append_right _ ha, fun nd => (List.nodup_append.mp nd).2.1⟩
    cases ρf with
    | nil => simp at h1
    | cons of ρf =>
      cases σf with
      | nil => obtain ⟨y, r, os2, rfl, _⟩ := tail; simp at h2
      | cons xf σf =>
        have recu : ∀ {r : L2.St} {os2 : List Addr}, σ.tail = r → Sl G H fz pr ρ r os2 → ∃ os', Sl G H fz pr ρf σf os' ∧ (∀ a ∈ os', a ∈ os2) ∧ (os2.Nodup → os'.Nodup) := fun {r os2} er hs => by
          subst er
          refine Sl.mix hs (by simpa using h1) (by simp only [List.length_cons, List.length_tail] at h2 ⊢; omega) fun i hlt => ?_
          rcases hi (i + 1) (by simpa using hlt) with ⟨k1, k2⟩ | ⟨o, x, k1, k2, k3⟩
          · refine .inl ⟨by simpa using k1, ?_⟩
            simp only [List.getElem?_cons_succ] at k2
            rw [k2, List.getElem?_tail]
          · exact .inr ⟨o, x, by simpa using k1, by simpa using k2, k3⟩
        rcases hi 0 (by simp) with ⟨k1, k2⟩ | ⟨o, x, k1, k2, k3⟩
        · have e1 : of = o0 := by simpa using k1
          subst e1
          cases of with
          | none =>
            simp only [Sl] at h
            obtain ⟨y, r, rfl, h⟩ := h
            have e2 : xf = y := by simpa using k2
            subst e2
            obtain ⟨os', m1, m2, m3⟩ := recu rfl h
            exact ⟨os', by simp only [Sl]; exact ⟨_, _, rfl, m1⟩, m2, m3⟩
          | some t =>
            simp only [Sl] at h
            obtain ⟨v, r, o1, o2, rfl, rfl, p1, p2⟩ := h
            have e2 : xf = some v := by simpa using k2
            subst e2
            obtain ⟨os', m1, m2, m3⟩ := recu rfl p2
            refine ⟨o1 ++ os', by simp only [Sl]; exact ⟨v, _, o1, os', rfl, rfl, p1, m1⟩, fun a ha => ?_, fun nd => ?_⟩
            · rcases List.mem_append.mp ha with h | h
              · exact List.mem_append_left _ h
              · exact List.mem_append_right _ (m2 a h)
            · rw [List.nodup_append] at nd ⊢
              exact ⟨nd.1, m3 nd.2.1, fun a ha b hb => nd.2.2 a ha b (m2 b hb)⟩
        · obtain ⟨y, r, os2, rfl, t1, t2, t3⟩ := tail
          have e1 : of = o := by simpa using k1
          have e2 : xf = x := by simpa using k2
          subst e1 e2
          obtain ⟨os', m1, m2, m3⟩ := recu rfl t1
          refine ⟨os', ?_, fun a ha => t2 a (m2 a ha), fun nd => m3 (t3 nd)⟩
          cases of with
          | none => simp only [Sl]; exact ⟨_, _, rfl, m1⟩
          | some t =>
            obtain ⟨v, rfl, ht⟩ := k3 t rfl
            simp only [Sl]
            exact ⟨v, _, [], os', rfl, rfl, ht, m1⟩
/-- what a hidden slot holds -/
theorem hide_tm (r : SR G pr io σ s) {v : Nat} (h : hideOk s.ρ v = true) : ∃ o, s.ρ[v]? = some o ∧ ∀ t, o = some t → ∃ x, σ[v]? = some (some x) ∧ TmR G s.H s.fz pr t x [] := by
  unfold hideOk at h
  cases e : s.ρ[v]? with
  | none => rw [e] at h; cases h
  | some o =>
    rw [e] at h
    refine ⟨o, rfl, fun t ht => ?_⟩
    subst ht
    obtain ⟨x, o1, o2, o3, e1, e2, ht, _⟩ := Sl.get r.sl e
    have : o2 = [] := by
      cases t with
      | v k d => cases k <;> simp only [TmR] at ht <;> first | exact ht.1 | (simp at h)
      | _ => simp at h
    subst this
    exact ⟨x, e1, ht⟩
theorem rest_len (ρ0 ρ : Ss) : ∀ vs, (restS ρ0 ρ vs).length = ρ.length
  | [] => rfl
  | v :: vs => by simp [restS, rest_len ρ0 ρ vs]
theorem rest_out {ρ0 ρ : Ss} {i : Nat} : ∀ {vs : List Nat}, i ∉ vs → (restS ρ0 ρ vs)[i]? = ρ[i]?
  | [], _ => rfl
  | v :: vs, h => by
    rw [List.mem_cons, not_or] at h
    show ((restS ρ0 ρ vs).set v _)[i]? = _
    rw [List.getElem?_set_ne (Ne.symm h.1), rest_out h.2]
theorem rest_in {ρ0 ρ : Ss} {i : Nat} {o : Option Tm} (e : ρ0[i]? = some o) (hi : i < ρ.length) : ∀ {vs : List Nat}, i ∈ vs → (restS ρ0 ρ vs)[i]? = some o
  | [], h => by cases h
  | v :: vs, h => by
    show ((restS ρ0 ρ vs).set v _)[i]? = _
    by_cases hv : v = i
    · subst hv
      rw [List.getElem?_set_self (by rw [rest_len]; exact hi), e]
    · rw [List.getElem?_set_ne hv]
      rcases List.mem_cons.mp h with h | h
      · exact absurd h.symm hv
      · exact rest_in e hi h
/-- behind a comprehension -/
theorem SR.rest {s2 : Sx} {vs : List Nat} (r1 : SR G pr io σ s1) (x : Ext s1 s2) (hv : vs.all (hideOk s1.ρ) = true) (r2 : SR G pr io (L2.wipe σ vs) s2) : ∃ os', SR G pr io σ { s2 with ρ := restS s1.ρ s2.ρ vs, os := os' } ∧ ∀ a ∈ os', a ∈ s2.os := by
  have hl1 : s1.ρ.length = σ.length := Sl.len r1.sl
  have hl2 : s2.ρ.length = σ.length := by have := Sl.len r2.sl; rw [this, L2.wipe_length]
  obtain ⟨os', k1, k2, k3⟩ := Sl.mix (ρf := restS s1.ρ s2.ρ vs) (σf := σ) r2.sl (rest_len _ _ _) (by rw [L2.wipe_length]) fun i hlt => by
    by_cases hm : i ∈ vs
    · have hh := List.all_eq_true.mp hv i hm
      obtain ⟨o, e1, e2⟩ := hide_tm r1 hh
      have hs : σ[i]? = some (σ[i]'(by omega)) := List.getElem?_eq_getElem (by omega)
      refine .inr ⟨o, _, rest_in e1 hlt hm, hs, fun t ht => ?_⟩
      obtain ⟨v, h1, h2⟩ := e2 t ht
      rw [hs] at h1
      refine ⟨v, Option.some.inj h1, ?_⟩
      exact TmR.keep x.fz (fun a p => .inr p) x.tk _ _ _ (fun a o p e => x.keep a o e fun z => by
        rcases p with p | p | p
        · cases p
        · exact (r1.sep a z).1 p
        · exact (r1.sep a z).2 p) h2
    · exact .inl ⟨rest_out hm, (wipe_get hm).symm⟩
  exact ⟨os', ⟨k1, k3 r2.nd, fun a ha => r2.sep a (k2 a ha), r2.dom, r1.iov⟩, k2⟩
theorem Ext.less {os' : List Addr} {ρ : Ss} (x : Ext s s1) (h : ∀ a ∈ os', a ∈ s1.os) : Ext s { s1 with ρ := ρ, os := os' } := ⟨x.keep, x.dom, x.tk, x.fz, x.fzo, fun a ha => x.oso a (h a ha)⟩
theorem wipe_wipe {σ : L2.St} {vs : List Nat} {σ2 : L2.St} (hl : σ2.length = σ.length) (h : ∀ i, i ∉ vs → σ2[i]? = σ[i]?) : L2.wipe σ2 vs = L2.wipe σ vs := by
  apply List.ext_getElem?
  intro i
  by_cases hm : i ∈ vs
  · have go : ∀ {τ : L2.St} {vs : List Nat}, i ∈ vs → i < τ.length → (L2.wipe τ vs)[i]? = some none := by
      intro τ vs
      induction vs with
      | nil => intro h; cases h
      | cons v vs ih =>
        intro h hlt
        show ((L2.wipe τ vs).set v none)[i]? = _
        by_cases hv : v = i
        · subst hv; rw [List.getElem?_set_self (by rw [L2.wipe_length]; exact hlt)]
        · rw [List.getElem?_set_ne hv]
          rcases List.mem_cons.mp h with h | h
          · exact absurd h.symm hv
          · exact ih h hlt
    by_cases hi : i < σ.length
    · rw [go hm (by omega), go hm hi]
    · rw [List.getElem?_eq_none (by rw [L2.wipe_length]; omega), List.getElem?_eq_none (by rw [L2.wipe_length]; omega)]
  · rw [wipe_get hm, wipe_get hm, h i hm]
/-- a list that nobody knows is changed -/
theorem SR.updD (r : SR G pr io σ s) {d : Addr} {o : HO} (h1 : ¬ s.fz d) (h2 : ¬ pr d) (h3 : d ∉ s.os) (ht : ∀ vs, s.H d ≠ some (.tup vs)) (hf : ∀ o u, s.H d ≠ some (.frz o (.lst u))) : SR G pr io σ { s with H := upd s.H d o } ∧ Tk s.H (upd s.H d o) := by
  have tk : Tk s.H (upd s.H d o) := ⟨fun a vs e => by rw [upd_ne (by rintro rfl; exact ht vs e)]; exact e, fun a o' u e => by rw [upd_ne (by rintro rfl; exact hf o' u e)]; exact e⟩
  refine ⟨⟨Sl.keep (fun _ h => h) (fun _ h => .inr h) tk (fun a u p e => ?_) r.sl, r.nd, r.sep, fun a h => ?_, r.iov⟩, tk⟩
  · show upd _ _ _ _ = _
    rw [upd_ne]
    · exact e
    · rintro rfl
      rcases p with p | p | p
      · exact h3 p
      · exact h1 p
      · exact h2 p
  · show upd _ _ _ _ ≠ none
    by_cases z : a = d
    · subst z; rw [upd_same]; simp
    · rw [upd_ne z]; exact r.dom a h
theorem t_yes : PTs X [] (tTest (tEv G W0 ios eTrue)) := ⟨fun pins s σ H Q I q => pts_nil.run pins s σ H Q I (by
  obtain ⟨pr, io, s, rfl, hi, r, q⟩ := of_tEv q
  exact q.isB r)⟩
theorem t_one (h : PTv X G W0 ios c gc) : PTs X [c] (tTest (tEv G W0 ios gc)) := pts_one h
theorem comp_read {wi : TI} {it : Iv} {vs tv : List Nat} {tgt : Tg} {test elt : Ev} (hwi : wi = tIv G W ios it) (htv : ∀ i ∈ tv, i ∈ vs) (hio : ∀ v ∈ vs, v ∉ ios) {H : Hp} {Q : VK} (q : tEv G W ios (eComp it vs tgt test elt) σ H Q) :
    tLc wi (gTg G ios tv tgt) (tTest (tEv G W0 ios test)) (tEv G W0 ios elt) vs σ H Q := by
  subst hwi
  obtain ⟨pr, io, s, rfl, hi, r, q⟩ := of_tEv q
  unfold eComp at q
  refine ⟨pr, io, s, rfl, hi, r, ?_⟩
  cases eit : it s.ρ with
  | no => rw [eit] at q; exact q.elim
  | ex e ρ' => rw [eit] at q; exact q
  | ok ts ρ' =>
    rw [eit] at q
    dsimp only at q ⊢
    intro J s1 e1 r1 x1 ⟨Gd, Y, w, hw⟩
    subst e1
    by_cases hv : vs.all (hideOk s1.ρ) = true
    · rw [if_pos hv] at q
      cases ec : compL tgt test elt vs ts s1.ρ with
      | none => rw [ec] at q; exact q.elim
      | some res =>
        obtain ⟨ds, ρfin⟩ := res
        rw [ec] at q
        dsimp only at q
        by_cases hds : ds.length ≤ sizeLine
        · rw [if_pos hds] at q
          intro L hL
          have fr := r1.fresh hL
          have hio' : ∀ v ∈ vs, v ∉ io.map Prod.fst := by rw [hi]; exact hio
          refine lc_it w (fun i H2 => ∃ s2 ρi acc accv dsr, s2.H = H2 ∧ s2.ρ = wipeS ρi vs ∧ SR G pr io (L2.wipe σ vs) s2 ∧ Ext s1 s2 ∧ s2.H L = some (.lst accv) ∧ Reps G s2.H s2.fz acc accv ∧ ¬ s2.fz L ∧ L ∉ s2.os ∧ compL tgt test elt vs (ts.drop i) ρi = some (dsr, ρfin) ∧ acc ++ dsr = ds) ?_ ?_ ?_ ?_
          · -- start
            obtain ⟨os', ra, ha⟩ := r1.wipe hio'
            refine ⟨Sx.new { s1 with ρ := wipeS s1.ρ vs, os := os' } L (.lst []), s1.ρ, [], [], ds, rfl, rfl, SR.new ra hL _, ?_, upd_same, by simp [Reps], fr.1, fun z => fr.2.2 (ha _ z), by simpa using ec, rfl⟩
            exact ((Ext.refl s1).less ha).trans (Ext.new (s := { s1 with ρ := wipeS s1.ρ vs, os := os' }) hL _)
          · rintro i H2 _ ⟨s2, ρi, acc, accv, dsr, rfl, _, r2, x2, _⟩
            exact (hw s2 _ r2 x2).1
          · -- a turn
            rintro i x H2 H' hlt ⟨s2, ρi, acc, accv, dsr, rfl, eρ, r2, x2, hL2, hacc, nf, nos, hcomp, hcat⟩ y
            obtain ⟨s3, t, rfl, e3, r3, x3, e4, p3⟩ := (hw s2 _ r2 x2).2 i x H' hlt y
            have ed : ts.drop i = t :: ts.drop (i + 1) := by
              rw [List.drop_eq_getElem_cons hlt]
              rw [List.getElem?_eq_getElem hlt] at e4
              cases e4
              rfl
            rw [ed] at hcomp
            simp only [compL] at hcomp
            refine ⟨pr, io, s3, s3, t, [], rfl, hi, r3, Ext.refl _, p3, Frs.nil, ?_⟩
            rw [e3, eρ]
            cases etg : tgt t (wipeS ρi vs) with
            | none => rw [etg] at hcomp; cases hcomp
            | some ρ1 =>
              rw [etg] at hcomp
              dsimp only at hcomp ⊢
              intro σ4 s4 e5 r4 x4 out4
              subst e5
              have wip : L2.wipe σ4 vs = L2.wipe σ vs := wipe_wipe (out4.1.trans (L2.wipe_length σ vs)) fun i hni => by
                rw [out4.2 i fun z => hni (htv i z), wipe_get hni]
              refine ⟨wip, ?_⟩
              cases ete : test s4.ρ with
              | no => rw [ete] at hcomp; cases hcomp
              | ex e ρ => rw [ete] at hcomp; cases hcomp
              | ok tb ρ2 =>
                rw [ete] at hcomp
                dsimp only at hcomp
                refine tEv_of hi r4 ?_
                rw [ete]
                intro vb s5 otb e6 r5 x5 p5 f5
                subst e6
                cases eb : asB tb with
                | none => rw [eb] at hcomp; cases hcomp
                | some bb =>
                  rw [eb] at hcomp
                  refine ⟨bb, asB_of p5 eb, ?_⟩
                  have x25 : Ext s2 s5 := (x3.trans x4).trans x5
                  have L5 : s5.H L = some (.lst accv) := x25.keep _ _ hL2 nos
                  have nf5 : ¬ s5.fz L := fun z => by
                    rcases x25.fzo L z with k | k | k
                    · exact nf k
                    · exact nos k
                    · rw [hL2] at k; cases k
                  have no5 : L ∉ s5.os := fun z => by
                    rcases x25.oso L z with k | k
                    · exact nos k
                    · rw [hL2] at k; cases k
                  have kacc : ∀ {s' : Sx}, Ext s2 s' → Reps G s'.H s'.fz acc accv := fun {s'} x => Reps.keep x.fz (fun a o p e => x.keep a o e fun z => (r2.sep a z).1 p) x.tk _ _ hacc
                  cases bb with
                  | false =>
                    dsimp only at hcomp
                    refine iteF ?_
                    obtain ⟨os', ra, ha⟩ := r5.wipe hio'
                    rw [wip] at ra
                    exact ⟨{ s5 with ρ := wipeS s5.ρ vs, os := os' }, s5.ρ, acc, accv, dsr, rfl, rfl, ra, (x2.trans x25).less ha, L5, kacc (x25.less ha), nf5, fun z => no5 (ha _ z), hcomp, hcat⟩
                  | true =>
                    dsimp only at hcomp
                    refine iteT ?_
                    cases eel : elt s5.ρ with
                    | no => rw [eel] at hcomp; cases hcomp
                    | ex e ρ => rw [eel] at hcomp; cases hcomp
                    | ok tx ρ3 =>
                      rw [eel] at hcomp
                      dsimp only at hcomp
                      refine tEv_of hi r5 ?_
                      rw [eel]
                      intro vx s6 ox e7 r6 x6 p6 f6
                      subst e7
                      cases efz : frz tx with
                      | none => rw [efz] at hcomp; cases hcomp
                      | some d =>
                        rw [efz] at hcomp
                        dsimp only at hcomp
                        cases erc : compL tgt test elt vs (ts.drop (i + 1)) s6.ρ with
                        | none => rw [erc] at hcomp; cases hcomp
                        | some q2 =>
                          obtain ⟨dsr2, ρf2⟩ := q2
                          rw [erc] at hcomp
                          simp only [Option.some.injEq, Prod.mk.injEq] at hcomp
                          obtain ⟨e8, e9⟩ := hcomp
                          subst e9
                          have x26 := x25.trans x6
                          have L6 : s6.H L = some (.lst accv) := x6.keep _ _ L5 no5
                          have nf6 : ¬ s6.fz L := fun z => by
                            rcases x6.fzo L z with k | k | k
                            · exact nf5 k
                            · exact no5 k
                            · rw [L5] at k; cases k
                          have no6 : L ∉ s6.os := fun z => by
                            rcases x6.oso L z with k | k
                            · exact no5 k
                            · rw [L5] at k; cases k
                          have nox : L ∉ ox := fun z => by
                            rcases f6 L z with k | k
                            · exact no5 k
                            · rw [L5] at k; cases k
                          have nlc : ∀ i, tx ≠ .loc i := fun i z => by subst z; simp [PV.frz] at efz
                          have r7 := r6.frzO (ot := ox) p6.rel.own p6.sep
                          have x7 : Ext s5 (s6.frz ox s6.ρ s6.os) := x6.frzO f6
                          have hd : Rep G s6.H (fun a => s6.fz a ∨ a ∈ ox) d vx := TmR.frz _ _ _ _ (tm_of p6.rel nlc) efz
                          have hacc7 : Reps G s6.H (fun a => s6.fz a ∨ a ∈ ox) acc accv := (kacc x26).mono fun a p => .inl p
                          have nf7 : ¬ (s6.fz L ∨ L ∈ ox) := fun z => z.elim nf6 nox
                          obtain ⟨r8, tk8⟩ := SR.updD (s := s6.frz ox s6.ρ s6.os) (o := .lst (accv ++ [vx])) r7 nf7 fr.2.1 no6 (fun ws z => by rw [show (s6.frz ox s6.ρ s6.os).H L = some (.lst accv) from L6] at z; cases z) fun o u z => by rw [show (s6.frz ox s6.ρ s6.os).H L = some (.lst accv) from L6] at z; cases z
                          obtain ⟨os', ra, ha⟩ := r8.wipe hio'
                          rw [wip] at ra
                          have hlen : accv.length = acc.length := hacc7.len.symm
                          have hsz : accv.length < sizeLine := by
                            have : (acc ++ dsr).length ≤ sizeLine := by rw [hcat]; exact hds
                            rw [List.length_append, ← e8, List.length_cons] at this
                            omega
                          refine ⟨accv, L6, hsz, _, s6.ρ, acc ++ [d], accv ++ [vx], dsr2, rfl, rfl, ra, ?_, upd_same, ?_, nf7, fun z => no6 (ha _ z), erc, by rw [← hcat, ← e8]; simp⟩
                          · have x28 : Ext s1 (s6.frz ox s6.ρ s6.os) := (x2.trans x25).trans x7
                            refine ⟨fun a o e n => ?_, fun a h => ?_, x28.tk.trans tk8, x28.fz, x28.fzo, fun a z => x28.oso a (ha a z)⟩
                            · show upd _ _ _ _ = _
                              rw [upd_ne (ne_of_none e hL)]
                              exact x28.keep a o e n
                            · show upd _ _ _ _ ≠ none
                              by_cases z : a = L
                              · subst z; rw [upd_same]; simp
                              · rw [upd_ne z]; exact x28.dom a h
                          · have kp : ∀ a o, (s6.fz a ∨ a ∈ ox) → s6.H a = some o → (upd s6.H L (.lst (accv ++ [vx]))) a = some o := fun a o p e => by
                              rw [upd_ne (by rintro rfl; exact nf7 p)]; exact e
                            refine (Reps.keep (fun _ h => h) kp tk8 _ _ hacc7).app ?_
                            simp only [Reps]
                            exact ⟨vx, [], rfl, Rep.keep (fun _ h => h) kp tk8 _ _ hd, rfl⟩
          · -- the end
            rintro H2 ⟨s2, ρi, acc, accv, dsr, rfl, eρ, r2, x2, hL2, hacc, nf, nos, hcomp, hcat⟩
            rw [List.drop_length] at hcomp
            simp only [compL, Option.some.injEq, Prod.mk.injEq] at hcomp
            obtain ⟨e5, e6⟩ := hcomp
            subst e5 e6
            rw [List.append_nil] at hcat
            subst hcat
            rw [← eρ] at q
            obtain ⟨os', ra, ha⟩ := SR.rest r1 x2 hv r2
            refine q (.ref L) { s2 with ρ := restS s1.ρ s2.ρ vs, os := os' } [L] rfl ra ((x1.trans x2).less ha) ⟨?_, by simp, fun a hm => ?_⟩ fun a hm => ?_
            · show TmR _ _ _ _ _ _ _
              simp only [TmR, RepO]
              exact ⟨L, accv, rfl, rfl, hL2, hacc⟩
            · rw [List.mem_singleton] at hm; subst hm
              exact ⟨nf, fr.2.1, fun z => nos (ha _ z)⟩
            · rw [List.mem_singleton] at hm; subst hm
              exact .inr (x1.back hL)
        · rw [if_neg hds] at q; exact q.elim
    · rw [if_neg hv] at q; exact q.elim
variable {elt iter : Expr} {ifs : List Expr} {scope : Scope} {own : List (Str × Nat)} {spos py : Pos} {it : Iv} {tgt : Tg} {test gel : Ev} {tv : List Nat}
theorem v_comp (hc : X.calm = true) (hN : X.N.Nodup) (hit : PIv X G W ios tg iter it) (ok : BlkOk X.N X.env.scope scope own)
    (hg : ∀ (s : Shared) (H : Hp) (C : Addr) (cl : List (Str × Addr)) (fp : List Addr), PGv (X.blk s H scope (compEnvC scope cl C X.env) fp) G ios tv tg tgt) (ht : ∀ (s : Shared) (H : Hp) (C : Addr) (cl : List (Str × Addr)) (fp : List Addr), PTs (X.blk s H scope (compEnvC scope cl C X.env) fp) ifs (tTest (tEv G W0 ios test)))
    (he : ∀ (s : Shared) (H : Hp) (C : Addr) (cl : List (Str × Addr)) (fp : List Addr), PEv (X.blk s H scope (compEnvC scope cl C X.env) fp) G W0 ios elt gel) (htv : ∀ i ∈ tv, i ∈ own.map (·.2)) (hio : ∀ v ∈ own.map (·.2), v ∉ ios) (hs : ∀ x, foldedSetIterable iter X.env x = pure x := by intro _; rfl) :
    PEv X G W ios (.ListComp elt [⟨tg, iter, ifs, 0⟩] scope pos) (eComp it (own.map (·.2)) tgt test gel) :=
  pe_imp (pe_lc hc hN hit ok hg ht he hs) fun _ _ _ q => comp_read rfl htv hio q
end
end PV

namespace PV
open PySem PySem.Spec L2

/-! ### what is owned is changed -/
section
variable {G : Gx} {W : WX} {pr : Addr → Prop} {io : List (Nat × V)} {σ : L2.St} {s s1 : Sx} {ios : List Nat} {Q : VK} {X : Cx} {a b c e : Expr} {pos p : Pos} {ga gb gc : Ev}
theorem Own.tk {H : Hp} {a : Addr} (h : Own H a) (o : HO) : Tk H (upd H a o) := by
  refine ⟨fun b vs e => ?_, fun b o' u e => ?_⟩
  · rw [upd_ne]
    · exact e
    · rintro rfl
      rcases h with ⟨_, h⟩ | ⟨_, h⟩ | ⟨_, h⟩ | ⟨_, _, _, h⟩ <;> rw [e] at h <;> cases h
  · rw [upd_ne]
    · exact e
    · rintro rfl
      rcases h with ⟨_, h⟩ | ⟨_, h⟩ | ⟨_, h⟩ | ⟨_, _, _, h⟩ <;> rw [e] at h <;> cases h
theorem SR.mut (r : SR G pr io σ s) {i : Nat} {t0 : Tm} (e : s.ρ[i]? = some (some t0)) : ∃ v o0, σ[i]? = some (some v) ∧ TmR G s.H s.fz pr t0 v o0 ∧ o0.Nodup ∧ (∀ a ∈ o0, a ∈ s.os) ∧
    ∀ (ot : List Addr) (a : Addr) (o' : HO) (t1 : Tm) (o1 : List Addr), a ∈ o0 → (∀ b ∈ ot, ¬ s.fz b ∧ ¬ pr b ∧ b ∉ s.os) → o1.Nodup → (∀ b ∈ o1, b ∈ o0 ∨ b ∈ ot) → TmR G (upd s.H a o') s.fz pr t1 v o1 →
      ∃ os', SR G pr io σ { s with H := upd s.H a o', ρ := s.ρ.set i (some t1), os := os' } ∧ (∀ b ∈ os', b ∈ s.os ∨ b ∈ ot) := by
  obtain ⟨v, o1, o2, o3, e1, e2, h, hput⟩ := Sl.get r.sl e
  have nd := r.nd
  rw [e2, List.nodup_append, List.nodup_append] at nd
  have inos : ∀ b, (b ∈ o1 ∨ b ∈ o2 ∨ b ∈ o3) → b ∈ s.os := fun b h => by rw [e2]; rcases h with h | h | h <;> simp [h]
  refine ⟨v, o2, e1, h, nd.2.1.1, fun a ha => inos a (.inr (.inl ha)), fun ot a o' t1 q1 ha hot hq1 hsub ht => ?_⟩
  have hos : a ∈ s.os := inos a (.inr (.inl ha))
  have tk : Tk s.H (upd s.H a o') := (r.own a hos).tk o'
  have hs := hput t1 (upd s.H a o') s.fz q1 ht (fun b u hb eb => by
    rw [upd_ne]
    · exact eb
    · rintro rfl
      rcases hb with hb | hb | hb | hb
      · exact nd.2.2 b hb b (List.mem_append_left _ ha) rfl
      · exact nd.2.1.2.2 b ha b hb rfl
      · exact (r.sep b hos).1 hb
      · exact (r.sep b hos).2 hb) (fun _ h => h) tk
  have split : ∀ b ∈ o1 ++ (q1 ++ o3), (b ∈ o1 ∨ b ∈ o3) ∨ b ∈ q1 := fun b hb => by simp only [List.mem_append] at hb; grind
  refine ⟨o1 ++ (q1 ++ o3), ⟨hs, ?_, fun b hb => ?_, fun b hb => ?_, r.iov⟩, fun b hb => ?_⟩
  · show (o1 ++ (q1 ++ o3)).Nodup
    rw [List.nodup_append, List.nodup_append]
    refine ⟨nd.1, ⟨hq1, nd.2.1.2.1, fun b hb c hc z => ?_⟩, fun b hb c hc z => ?_⟩
    · subst z
      rcases hsub b hb with h | h
      · exact nd.2.1.2.2 b h b hc rfl
      · exact (hot b h).2.2 (inos b (.inr (.inr hc)))
    · subst z
      rcases List.mem_append.mp hc with hc | hc
      · rcases hsub b hc with h | h
        · exact nd.2.2 b hb b (List.mem_append_left _ h) rfl
        · exact (hot b h).2.2 (inos b (.inl hb))
      · exact nd.2.2 b hb b (List.mem_append_right _ hc) rfl
  · rcases split b hb with (h | h) | h
    · exact r.sep b (inos b (.inl h))
    · exact r.sep b (inos b (.inr (.inr h)))
    · rcases hsub b h with h | h
      · exact r.sep b (inos b (.inr (.inl h)))
      · exact ⟨(hot b h).1, (hot b h).2.1⟩
  · show upd _ _ _ _ ≠ none
    by_cases z : b = a
    · subst z; rw [upd_same]; simp
    · rw [upd_ne z]; exact r.dom b hb
  · rcases split b hb with (h | h) | h
    · exact .inl (inos b (.inl h))
    · exact .inl (inos b (.inr (.inr h)))
    · exact (hsub b h).imp (fun z => inos b (.inr (.inl z))) id
theorem Ext.mut (x : Ext s s1) {a : Addr} (own : Own s1.H a) (ha : a ∈ s1.os) {os' ot : List Addr} (h : ∀ b ∈ os', b ∈ s1.os ∨ b ∈ ot) (f : Frs s ot) (o' : HO) (ρ : Ss) : Ext s { s1 with H := upd s1.H a o', ρ := ρ, os := os' } := by
  refine ⟨fun b o e n => ?_, fun b hb => ?_, x.tk.trans (own.tk o'), x.fz, x.fzo, fun b hb => ?_⟩
  · show upd _ _ _ _ = _
    rw [upd_ne]
    · exact x.keep b o e n
    · rintro rfl
      rcases x.oso b ha with z | z
      · exact n z
      · rw [e] at z; cases z
  · show upd _ _ _ _ ≠ none
    by_cases z : b = a
    · subst z; rw [upd_same]; simp
    · rw [upd_ne z]; exact x.dom b hb
  · rcases h b hb with h | h
    · exact x.oso b h
    · exact f b h
theorem Reps.updO {H : Hp} {P : Addr → Prop} {ds : List D} {vs : List V} {a : Addr} (h : Reps G H P ds vs) (own : Own H a) (hP : ¬ P a) (o : HO) : Reps G (upd H a o) P ds vs :=
  Reps.keep (fun _ h => h) (fun b u p e => by rw [upd_ne (by rintro rfl; exact hP p)]; exact e) (own.tk o) _ _ h
theorem TmRs.updO {H : Hp} {fz : Addr → Prop} {ts : List Tm} {vs : List V} {o1 : List Addr} {a : Addr} (h : TmRs G H fz pr ts vs o1) (own : Own H a) (h1 : ¬ fz a) (h2 : ¬ pr a) (h3 : a ∉ o1) (o : HO) : TmRs G (upd H a o) fz pr ts vs o1 :=
  TmRs.keep (fun _ h => h) (fun _ h => .inr h) (own.tk o) _ _ _ (fun b u p e => by
    rw [upd_ne]
    · exact e
    · rintro rfl
      rcases p with p | p | p
      · exact h3 p
      · exact h1 p
      · exact h2 p) h
theorem TmR.updO {H : Hp} {fz : Addr → Prop} {t : Tm} {v : V} {o1 : List Addr} {a : Addr} (h : TmR G H fz pr t v o1) (own : Own H a) (h1 : ¬ fz a) (h2 : ¬ pr a) (h3 : a ∉ o1) (o : HO) : TmR G (upd H a o) fz pr t v o1 :=
  TmR.keep (fun _ h => h) (fun _ h => .inr h) (own.tk o) _ _ _ (fun b u p e => by
    rw [upd_ne]
    · exact e
    · rintro rfl
      rcases p with p | p | p
      · exact h3 p
      · exact h1 p
      · exact h2 p) h

/-! ### methods of a list that a name owns -/
def isLs (ρ : Ss) (i : Nat) : Bool := match ρ[i]? with
  | some (some (.v .O (.lst _))) => true
  | _ => false
/-- xs.m(e, ..): op gives the answer and the list behind -/
def eLm (op : List D → List D → Option (D × List D)) (i : Nat) (gs : Ss → OuL) : Ev := fun ρ => if isLs ρ i = true then (gs ρ).bind fun ts ρ1 => match ρ1[i]? with
  | some (some (.v .O (.lst xs))) => match frzs ts with
    | some ds => match op xs ds with
      | some (x, xs') => if xs'.length ≤ sizeLine then .ok (.v .F x) (ρ1.set i (some (.v .O (.lst xs')))) else .no
      | none => .no
    | none => .no
  | _ => .no
  else .no
/-- what is to be shown of a list's method -/
def LmOk (G : Gx) (op : List D → List D → Option (D × List D)) (r : V → List V → Hp → VK → Prop) : Prop := ∀ (H : Hp) (P : Addr → Prop) (l : Addr) (xs ds : List D) (xv dv : List V) (x : D) (xs' : List D) (Q : VK), H l = some (.lst xv) → Reps G H P xs xv → Reps G H P ds dv → op xs ds = some (x, xs') → xs'.length ≤ sizeLine →
  (∀ v xv', (∀ (H' : Hp) (P' : Addr → Prop), Reps G H' P' xs xv → Reps G H' P' ds dv → Rep G H' P' x v ∧ Reps G H' P' xs' xv') → Q v (upd H l (.lst xv'))) → r (.ref l) dv H Q
def opApp : List D → List D → Option (D × List D) := fun xs ds => match ds with
  | [d] => some (.non, xs ++ [d])
  | _ => none
def opPop : List D → List D → Option (D × List D) := fun xs ds => match ds, xs[xs.length - 1]? with
  | [], some x => some (x, xs.dropLast)
  | _, _ => none
def opPopAt : List D → List D → Option (D × List D) := fun xs ds => match ds with
  | [.int i] => match seqIndex? i xs.length with
    | some k => match xs[k]? with
      | some x => if -(2 ^ 63) ≤ i ∧ i < 2 ^ 63 then some (x, xs.eraseIdx k) else none
      | none => none
    | none => none
  | _ => none
def opRevL : List D → List D → Option (D × List D) := fun xs ds => match ds with
  | [] => some (.non, xs.reverse)
  | _ => none
def opClear : List D → List D → Option (D × List D) := fun xs ds => match ds with
  | [] => some (.non, [])
  | _ => none
theorem Reps.one {H : Hp} {P : Addr → Prop} {d : D} {dv : List V} (h : Reps G H P [d] dv) : ∃ v, dv = [v] ∧ Rep G H P d v := by
  simp only [Reps] at h
  obtain ⟨v, r, rfl, h, rfl⟩ := h
  exact ⟨v, rfl, h⟩
theorem Reps.dropLast {H : Hp} {P : Addr → Prop} : ∀ {ds : List D} {vs : List V}, Reps G H P ds vs → Reps G H P ds.dropLast vs.dropLast
  | [], vs, h => by simp only [Reps] at h; subst h; simp [Reps]
  | [d], vs, h => by obtain ⟨v, rfl, h⟩ := h.one; simp [Reps]
  | d :: d2 :: ds, vs, h => by
    simp only [Reps] at h
    obtain ⟨v, r, rfl, h1, v2, r2, rfl, h2, h3⟩ := h
    have ih := Reps.dropLast (ds := d2 :: ds) (vs := v2 :: r2) (by simp only [Reps]; exact ⟨v2, r2, rfl, h2, h3⟩)
    simp only [List.dropLast_cons₂, Reps]
    exact ⟨v, _, rfl, h1, ih⟩
theorem Reps.erase {H : Hp} {P : Addr → Prop} : ∀ {ds : List D} {vs : List V} (k : Nat), Reps G H P ds vs → Reps G H P (ds.eraseIdx k) (vs.eraseIdx k)
  | [], vs, k, h => by simp only [Reps] at h; subst h; simp [Reps]
  | d :: ds, vs, 0, h => by simp only [Reps] at h; obtain ⟨v, r, rfl, h1, h2⟩ := h; exact h2
  | d :: ds, vs, k + 1, h => by
    simp only [Reps] at h
    obtain ⟨v, r, rfl, h1, h2⟩ := h
    simp only [List.eraseIdx_cons_succ, Reps]
    exact ⟨v, _, rfl, h1, Reps.erase k h2⟩
theorem Reps.setI {H : Hp} {P : Addr → Prop} {d : D} {v : V} (hd : Rep G H P d v) : ∀ {ds : List D} {vs : List V} (k : Nat), Reps G H P ds vs → Reps G H P (ds.set k d) (vs.set k v)
  | [], vs, k, h => by simp only [Reps] at h; subst h; simp [Reps]
  | d0 :: ds, vs, 0, h => by simp only [Reps] at h; obtain ⟨v0, r, rfl, h1, h2⟩ := h; simp only [List.set_cons_zero, Reps]; exact ⟨_, _, rfl, hd, h2⟩
  | d0 :: ds, vs, k + 1, h => by
    simp only [Reps] at h
    obtain ⟨v0, r, rfl, h1, h2⟩ := h
    simp only [List.set_cons_succ, Reps]
    exact ⟨v0, _, rfl, h1, Reps.setI hd k h2⟩
theorem lm_app : LmOk G opApp rAppend := fun H P l xs ds xv dv x xs' Q hl hx hd e hz q => by
  unfold opApp at e
  split at e
  · cases e
    obtain ⟨v, rfl, hv⟩ := hd.one
    refine ⟨l, xv, v, rfl, rfl, hl, ?_, q .non _ fun H' P' k1 k2 => ⟨by simp only [Rep], k1.app k2⟩⟩
    rw [← hx.len]
    rw [List.length_append, List.length_singleton] at hz
    omega
  · cases e
theorem lm_pop : LmOk G opPop rPop := fun H P l xs ds xv dv x xs' Q hl hx hd e hz q => by
  unfold opPop at e
  split at e
  · rename_i y ey
    cases e
    simp only [Reps] at hd
    subst hd
    obtain ⟨v, hv, rv⟩ := hx.get ey
    rw [hx.len] at hv
    refine ⟨l, xv, v, rfl, rfl, hl, hv, q v _ fun H' P' k1 k2 => ⟨?_, k1.dropLast⟩⟩
    obtain ⟨v', hv', rv'⟩ := k1.get ey
    rw [hx.len, hv] at hv'
    cases hv'
    exact rv'
  · cases e
theorem lm_popAt : LmOk G opPopAt rPopAt := fun H P l xs ds xv dv x xs' Q hl hx hd e hz q => by
  unfold opPopAt at e
  split at e
  · rename_i i
    split at e
    · rename_i k ek
      split at e
      · rename_i y ey
        split at e
        · rename_i hi
          cases e
          obtain ⟨w, rfl, hw⟩ := hd.one
          simp only [Rep] at hw
          subst hw
          obtain ⟨v, hv, rv⟩ := hx.get ey
          refine ⟨l, xv, i, k, v, rfl, rfl, hl, hi.1, hi.2, by rw [← hx.len]; exact ek, hv, q v _ fun H' P' k1 k2 => ⟨?_, k1.erase k⟩⟩
          obtain ⟨v', hv', rv'⟩ := k1.get ey
          rw [hv] at hv'
          cases hv'
          exact rv'
        · cases e
      · cases e
    · cases e
  · cases e
/-- the list behind the name i -/
theorem ls_at (r : SR G pr io σ s) {i : Nat} {v : V} (hv : σ[i]? = some (some v)) (h : isLs s.ρ i = true) : ∃ l xv, v = .ref l ∧ s.H l = some (.lst xv) := by
  unfold isLs at h
  split at h
  · rename_i xs e
    obtain ⟨o, ht, _⟩ := r.at e hv
    simp only [TmR, RepO] at ht
    obtain ⟨a, vs, rfl, rfl, h1, _⟩ := ht
    exact ⟨a, vs, rfl, h1⟩
  · cases h
theorem lm_end {op : List D → List D → Option (D × List D)} {rr : V → List V → Hp → VK → Prop} {gs : Ss → OuL} {i : Nat} (h : LmOk G op rr) {l : Addr} {v : V} {ts : List Tm} {vs : List V} {ot : List Addr} (hv : σ[i]? = some (some v))
    (r1 : SR G pr io σ s1) (x1 : Ext s s1) (p1 : Tps G pr σ s1 ts vs ot) (f1 : Frs s ot)
    (q : OuP G W pr io σ s (match s1.ρ[i]? with
      | some (some (.v .O (.lst xs))) => match frzs ts with
        | some ds => match op xs ds with
          | some (x, xs') => if xs'.length ≤ sizeLine then .ok (.v .F x) (s1.ρ.set i (some (.v .O (.lst xs')))) else .no
          | none => .no
        | none => .no
      | _ => .no) Q) : rr v vs s1.H Q := by
  split at q
  · rename_i xs e
    cases e1 : frzs ts with
    | none => rw [e1] at q; exact q.elim
    | some ds =>
      rw [e1] at q
      dsimp only at q
      cases e2 : op xs ds with
      | none => rw [e2] at q; exact q.elim
      | some w =>
        obtain ⟨x, xs'⟩ := w
        rw [e2] at q
        dsimp only at q
        split at q
        · rename_i hz
          have hd := p1.rel.frz e1
          have r2 := r1.frzO (ot := ot) p1.rel.own p1.sep
          have x2 := x1.frzO f1
          obtain ⟨v', o0, hv', ht, nd0, sub0, mu⟩ := r2.mut (i := i) e
          rw [hv] at hv'
          cases hv'
          simp only [TmR, RepO] at ht
          obtain ⟨a, xv, rfl, rfl, hl, hxs⟩ := ht
          have hos : a ∈ s1.os := sub0 a (by simp)
          have own := r2.own a (sub0 a (by simp))
          have hsep := r2.sep a (sub0 a (by simp))
          refine h s1.H (fun a => s1.fz a ∨ a ∈ ot) a xs ds xv vs x xs' Q hl hxs hd e2 hz fun v2 xv' k => ?_
          obtain ⟨k1, k2⟩ := k (upd s1.H a (.lst xv')) (fun a => s1.fz a ∨ a ∈ ot) (hxs.updO own hsep.1 _) (hd.updO own hsep.1 _)
          obtain ⟨os', r3, hos'⟩ := mu [] a (.lst xv') (.v .O (.lst xs')) [a] (by simp) (fun b hb => by cases hb) (by simp) (fun b hb => .inl hb) (by simp only [TmR, RepO]; exact ⟨a, xv', rfl, rfl, upd_same, k2⟩)
          exact q v2 _ [] rfl r3 (x2.mut own (sub0 a (by simp)) hos' Frs.nil _ _) ⟨⟨rfl, k1⟩, .nil, fun a ha => by cases ha⟩ Frs.nil
        · exact q.elim
  · exact q.elim
variable {o : Expr} {es : List Expr} {gs : Ss → OuL} {i : Nat} {x name : Str} {apos cpos : Pos} {id : String} {rr : V → List V → Hp → VK → Prop} {op : List D → List D → Option (D × List D)}
def isAt (i : Nat) (ρ : Ss) : Prop := True
theorem v_lm (h : LmOk G op rr) (slot : Slot "list" name id) (hty : typeOf (.builtin id) = pure (.type "method_descriptor")) (hm : MtR X id rr) (hi : X.N[i]? = some x) (hx : Vis X.env.scope x) (hdn : (x == ("__debug__" : Str)) = false) (hcn : (x == ("__classdict__" : Str)) = false) (ha : PAv X G W ios (e :: es) gs)
    (hbase : attributeBase (.Name x p) name X.env (eval (.Name x p) X.env) = eval (.Name x p) X.env := by rfl)
    (hfew : ((backTo cpos (starEach (e :: es) X.env)).all (fun x => !x.1) && (backToKw cpos (keywordEach [] X.env)).all (fun x => x.1.isSome)
      && decide ((e :: es).length + ([] : List Keyword).length + (if ([] : List Keyword).isEmpty then 0 else 1) < 30)) = true := by rfl)
    (hline : (apos.endLine == cpos.line) = true := by rfl) (hs : starEach (e :: es) X.env = (false, eval e X.env) :: starEach es X.env := by rfl) (hplain : (backTo cpos (starEach es X.env)).any (·.1) = false := by rfl) :
    PEv X G W ios (.Call (.Attribute (.Name x p) name apos) (e :: es) [] cpos) (eLm op i gs) :=
  pe_imp (pe_bm PySem.F.plainAttrs_list slot hty hm (pe_var hi hx hdn hcn) ha hbase hfew hline hs hplain) fun σ H Q q => by
    obtain ⟨pr, io, s, rfl, hi, r, q⟩ := of_tEv q
    unfold eLm at q
    split at q
    · rename_i hl
      cases hv : σ[i]? with
      | none =>
        exfalso
        unfold isLs at hl
        split at hl
        · rename_i e; obtain ⟨_, _, _, _, k, _⟩ := Sl.get r.sl e; rw [hv] at k; cases k
        · cases hl
      | some w =>
        cases w with
        | none =>
          exfalso
          unfold isLs at hl
          split at hl
          · rename_i e; obtain ⟨_, _, _, _, k, _⟩ := Sl.get r.sl e; rw [hv] at k; cases k
          · cases hl
        | some v =>
          obtain ⟨l, xv, rfl, hH⟩ := ls_at r hv hl
          refine ⟨.ref l, hv, .inl ⟨rfl, xv, SqL.of hH⟩, tEvs_of hi r (OuLP.bind0 q fun ts vs s1 ot r1 x1 p1 f1 q1 => ?_)⟩
          exact lm_end (gs := gs) (l := l) h hv r1 x1 p1 f1 q1
    · exact q.elim

theorem lm_cell (r : SR G pr io σ s) (hl : isLs s.ρ i = true) : ∃ l xv, σ[i]? = some (some (.ref l)) ∧ s.H l = some (.lst xv) := by
  cases h : s.ρ[i]? with
  | none => unfold isLs at hl; rw [h] at hl; cases hl
  | some o =>
    cases o with
    | none => unfold isLs at hl; rw [h] at hl; cases hl
    | some t =>
      obtain ⟨v, _, _, _, k, _⟩ := Sl.get r.sl h
      obtain ⟨l, xv, rfl, hH⟩ := ls_at r k hl
      exact ⟨l, xv, k, hH⟩
theorem v_lm0 (h : LmOk G op rr) (slot : Slot "list" name id) (hty : typeOf (.builtin id) = pure (.type "method_descriptor")) (hm : MtR X id rr) (hi : X.N[i]? = some x) (hx : Vis X.env.scope x) (hdn : (x == ("__debug__" : Str)) = false) (hcn : (x == ("__classdict__" : Str)) = false)
    (hbase : attributeBase (.Name x p) name X.env (eval (.Name x p) X.env) = eval (.Name x p) X.env := by rfl) (hline : (apos.endLine == cpos.line) = true := by rfl) :
    PEv X G W ios (.Call (.Attribute (.Name x p) name apos) [] [] cpos) (eLm op i gNil) :=
  pe_imp (pe_bm0 PySem.F.plainAttrs_list slot hty hm (pe_var hi hx hdn hcn) hbase hline) fun σ H Q q => by
    obtain ⟨pr, io, s, rfl, hi, r, q⟩ := of_tEv q
    unfold eLm at q
    split at q
    · rename_i hl
      obtain ⟨l, xv, hv, hH⟩ := lm_cell r hl
      exact ⟨.ref l, hv, .inl ⟨rfl, xv, SqL.of hH⟩, lm_end (gs := gNil) (l := l) (ts := []) (vs := []) (ot := []) h hv r (Ext.refl s) ⟨by simp [TmTs], .nil, fun a ha => by cases ha⟩ Frs.nil q⟩
    · exact q.elim

/-! ### xs[i] = v -/
def tgSub (i : Nat) (gi : Ev) : Tg := fun t ρ => if isLs ρ i = true then match gi ρ with
  | .ok u ρ2 => match ρ2[i]? with
    | some (some (.v .O (.lst xs))) => match derT ρ2 u with
      | some (.v _ (.int k)) => match frz t with
        | some d => match ixN xs.length k with
          | some j => some (ρ2.set i (some (.v .O (.lst (xs.set j d)))))
          | none => none
        | none => none
      | _ => none
    | _ => none
  | _ => none
  else none
theorem TmR.intv {H : Hp} {fz : Addr → Prop} {k : Kd} {n : Int} {v : V} {o : List Addr} (h : TmR G H fz pr (.v k (.int n)) v o) : v = .int n := by
  cases k <;> simp only [TmR, RepO, Rep] at h <;> exact h.2
theorem g_sub {i : Nat} {x : Str} {ie : Expr} {gi : Ev} (hx : X.N[i]? = some x) (hv : Vis X.env.scope x) (hdn : (x == ("__debug__" : Str)) = false) (hcn : (x == ("__classdict__" : Str)) = false) (hi : PEv X G W ios ie gi)
    (ha : ∀ v, assign (.Subscript (.Name x p) ie pos) X.env v = (do
      let ov ← holding [v] (eval (.Name x p) X.env)
      let iv ← holding [v, ov] (eval ie X.env)
      standAt pos
      holding [v, ov, iv] (setItem ov iv v)
      release [v, ov, iv] []) := by intro _; rfl) : PGv X G ios [] (.Subscript (.Name x p) ie pos) (tgSub i gi) :=
  pg_imp (pg_sub (pe_var hx hv hdn hcn) hi set_list ha) fun v σ H Q q => by
    obtain ⟨pr, io, s0, s, t, ot, rfl, hi, r, x, p, f, q⟩ := q
    unfold tgSub at q
    by_cases hl : isLs s.ρ i = true
    · rw [if_pos hl] at q
      obtain ⟨l, xv, hv, hH⟩ := lm_cell r hl
      refine ⟨.ref l, hv, tEv_of hi r ?_⟩
      cases eg : gi s.ρ with
      | no => rw [eg] at q; exact q.elim
      | ex e ρ => rw [eg] at q; exact q.elim
      | ok u ρ2 =>
        rw [eg] at q
        intro w s2 ow e2 r2 x2 pw fw
        subst e2
        dsimp only at q
        have p2 := p.on r x2
        split at q
        · rename_i ρ' heq
          split at heq
          · rename_i xs e3
            split at heq
            · rename_i k n e4
              split at heq
              · rename_i d e5
                split at heq
                · rename_i j e6
                  cases heq
                  obtain ⟨o4, h4⟩ := pw.der r2 e4
                  have ew := h4.intv
                  subst ew
                  have hnl : ∀ i, t ≠ .loc i := fun i z => by subst z; simp [PV.frz] at e5
                  have r3 := r2.frzO (ot := ot) p2.rel.own p2.sep
                  have x3 := (x.trans x2).frzO f
                  have hd : Rep G s2.H (fun a => s2.fz a ∨ a ∈ ot) d v := TmR.frz _ _ _ _ (tm_of p2.rel hnl) e5
                  obtain ⟨v', o0, hv', ht, nd0, sub0, mu⟩ := r3.mut (i := i) e3
                  rw [hv] at hv'
                  cases hv'
                  simp only [TmR, RepO] at ht
                  obtain ⟨a, yv, e7, rfl, hl2, hxs⟩ := ht
                  cases e7
                  have own := r3.own l (sub0 l (by simp))
                  have hsep := r3.sep l (sub0 l (by simp))
                  refine ⟨l, yv, n, j, rfl, rfl, hl2, by rw [← hxs.len]; exact e6, ?_⟩
                  have k2 : Reps G (upd s2.H l (.lst (yv.set j v))) (fun a => s2.fz a ∨ a ∈ ot) (xs.set j d) (yv.set j v) := (Reps.setI hd j hxs).updO own hsep.1 _
                  obtain ⟨os', r4, hos'⟩ := mu [] l (.lst (yv.set j v)) (.v .O (.lst (xs.set j d))) [l] (by simp) (fun b hb => by cases hb) (by simp) (fun b hb => .inl hb) (by simp only [TmR, RepO]; exact ⟨l, _, rfl, rfl, upd_same, k2⟩)
                  exact q σ _ rfl r4 (x3.mut own (sub0 l (by simp)) hos' Frs.nil _ _) ⟨rfl, fun _ _ => rfl⟩
                · cases heq
              · cases heq
            · cases heq
          · cases heq
        · exact q.elim
    · rw [if_neg hl] at q; exact q.elim

/-! ### name op= e -/
def sAug (i : Nat) (f : Tm → Tm → Option Tm) (g : Ev) : Sm := fun ρ => match ρ[i]? with
  | some (some (.v .F d)) => (g ρ).toF fun u ρ1 => match derT ρ1 u with
    | some u1 => match f (.v .F d) u1 with
      | some r => if isLoc r = false ∧ i < ρ1.length then .nx (ρ1.set i (some r)) else .no
      | none => .no
    | none => .no
  | _ => .no
end
end PV

namespace PV
open PySem PySem.Spec L2

/-! ### objects -/
/-- a class whose objects bear just the attributes ns -/
structure ClsF (K : PySem.W.Frag) (C : Addr) (ns : List Str) : Prop where
  c : Cls K C
  nd : ns.Nodup
  na : ∀ f ∈ ns, NoAttr K C f
  sm : ns.length < 1000
def setAt {α : Type} : List α → Nat → α → List α
  | [], _, x => [x]
  | _ :: as, 0, x => x :: as
  | a :: as, j + 1, x => a :: setAt as j x
section
variable {G : Gx} {W : WX} {pr : Addr → Prop} {io : List (Nat × V)} {σ : L2.St} {s s1 : Sx} {ios : List Nat} {Q : VK} {X : Cx} {a b e o value : Expr} {pos p pos' tpos : Pos} {ga gb gc : Ev} {c : Nat} {f : Str}
theorem TmRs.get {H : Hp} {fz : Addr → Prop} : ∀ {ts : List Tm} {vs : List V} {os : List Addr} {j : Nat} {t : Tm}, TmRs G H fz pr ts vs os → ts[j]? = some t → ∃ v o, vs[j]? = some v ∧ TmR G H fz pr t v o ∧ ∀ a ∈ o, a ∈ os
  | [], vs, os, j, t, h, e => by simp at e
  | t0 :: ts, vs, os, 0, t, h, e => by
    simp only [TmRs] at h
    obtain ⟨v, r, o1, o2, rfl, rfl, h1, h2⟩ := h
    have e' : t0 = t := by simpa using e
    subst e'
    exact ⟨v, o1, rfl, h1, fun a ha => List.mem_append_left _ ha⟩
  | t0 :: ts, vs, os, j + 1, t, h, e => by
    simp only [TmRs] at h
    obtain ⟨v, r, o1, o2, rfl, rfl, h1, h2⟩ := h
    obtain ⟨w, o, e1, e2, e3⟩ := TmRs.get h2 (j := j) (t := t) (by simpa using e)
    exact ⟨w, o, by simpa using e1, e2, fun a ha => List.mem_append_right _ (e3 a ha)⟩
/-- e.f -/
def fldT (c j : Nat) : Tm → Option Tm
  | .ob c' ts => if c' = c then match ts[j]? with
    | some (.v .F d) => some (.v .F d)
    | _ => none
    else none
  | .v k (.ins c' xs) => if c' = c then (xs[j]?).map (subK k) else none
  | _ => none
def eFld (c j : Nat) : Ev → Ev := eOp1 (fldT c j)
/-! ### self.f = e -/
def isOb (c : Nat) : Option Tm → Bool
  | some (.ob c' _) => c' == c
  | some (.v _ (.ins c' _)) => c' == c
  | _ => false
def sFst (c j i : Nat) (g : Ev) : Sm := fun ρ => (g ρ).toF fun t ρ1 => match ρ1[i]? with
  | some (some (.ob c' ts)) => match unB t with
    | some u => if c' = c ∧ j ≤ ts.length then .nx (ρ1.set i (some (.ob c (setAt ts j u)))) else .no
    | none => .no
  | _ => .no
/-- self.f op= e -/
def sFaug (c j i : Nat) (fo : Tm → Tm → Option Tm) (g : Ev) : Sm := fun ρ => match ρ[i]? with
  | some (some (.ob c' ts0)) => match ts0[j]? with
    | some (.v .F d) => if c' = c then (g ρ).toF fun u ρ1 => match ρ1[i]? with
      | some (some (.ob c2 ts)) => match derT ρ1 u with
        | some u1 => match fo (.v .F d) u1 with
          | some rr => match unB rr with
            | some r1 => if c2 = c ∧ j ≤ ts.length then .nx (ρ1.set i (some (.ob c (setAt ts j r1)))) else .no
            | none => .no
          | none => .no
        | none => .no
      | _ => .no
      else .no
    | _ => .no
  | _ => .no
end
end PV

namespace PV
open PySem PySem.Spec L2

/-! ### methods, properties, constructors -/
section
variable {X : Cx} {k : Nat} {f C : Addr} {fd : FuncData} {ps : List Str} {sp : Sp} {E : St → XK} {x m : Str} {p pos apos : Pos} {e o : Expr} {es : List Expr} {ta : TE} {t : TA}
def tMethV (C : Addr) (m : Str) (sp : Sp) (E : St → XK) (ta : TE) (t : TA) : TE := fun σ H Q => ta σ H fun x H1 => ∃ a dx fs, x = .ref a ∧ H1 a = some (.ins C dx fs) ∧ fs.lookup m = none ∧ t σ H1 fun vs H2 => sp (x :: vs) H2 Q (E σ)
/-- C(..) -/
def tMakeV (C : Addr) (sp : Sp) (gV : List V → List V → List V) (E : St → XK) (n m : Nat) (t tk : TA) : TE := fun σ H Q => t σ H fun vs H1 => tk σ H1 fun zs H2 => vs.length = n ∧ zs.length = m ∧ ∀ x dx, H2 x = none → H2 dx = none → dx ≠ x →
  sp (gV (.ref x :: vs) zs) (upd (upd H2 dx (.own x)) x (.ins C dx [])) (fun v H3 => v = .non ∧ Q (.ref x) H3) (E σ)
variable {n : Nat} {ks : List Str} {kws : List Keyword} {tk : TA} {g : List Value → List Value → List Value} {gV : List V → List V → List V}
end
section
variable {G : Gx} {W : WX} {pr : Addr → Prop} {io : List (Nat × V)} {σ : L2.St} {s s1 : Sx} {ios : List Nat} {Q : VK} {X : Cx} {a b e o value : Expr} {pos p pos' tpos apos : Pos} {g0 ga gb gc : Ev} {c : Nat} {f : Str} {gs gk : Ss → OuL} {es : List Expr}
def eMeth (c : Nat) (fn : Fn) (ms : List Md) (g0 : Ev) (gs : Ss → OuL) : Ev := fun ρ => (g0 ρ).bind fun t0 ρ1 => if isOb c (derT ρ1 t0) = true then (gs ρ1).bind fun ts ρ2 => callF fn ms (t0 :: ts) ρ2 else .no
variable {k n : Nat} {fa : Addr} {fd : FuncData} {ps : List Str} {fn : Fn} {ms : List Md} {x m : Str}
/-- a property -/
def eProp (c : Nat) (fn : Fn) (ms : List Md) (g0 : Ev) : Ev := fun ρ => (g0 ρ).bind fun t0 ρ1 => if isOb c (derT ρ1 t0) = true then match callF fn ms [t0] ρ1 with
  | .ex _ _ => .no
  | o => o
  else .no
/-! ### C(..) -/
def isNonT : Tm → Bool
  | .v _ .non => true
  | _ => false
def mkF (c : Nat) (fn : Fn) (ms : List Md) (ts : List Tm) (ρ : Ss) : Ou := match callF fn (.io :: ms) (.loc ρ.length :: ts) (ρ ++ [some (.ob c [])]) with
  | .ok t ρ2 => if isNonT t = true then match ρ2[ρ.length]? with
    | some (some u) => .ok u (ρ2.take ρ.length)
    | _ => .no
    else .no
  | .ex e ρ2 => .ex e (ρ2.take ρ.length)
  | .no => .no
theorem Sl.snoc {H : Hp} {fz : Addr → Prop} {u : Tm} {v : V} {o2 : List Addr} (hu : TmR G H fz pr u v o2) : ∀ {ρ : Ss} {σ : L2.St} {os : List Addr}, Sl G H fz pr ρ σ os → Sl G H fz pr (ρ ++ [some u]) (σ ++ [some v]) (os ++ o2)
  | [], σ, os, h => by
    simp only [Sl] at h
    obtain ⟨rfl, rfl⟩ := h
    simp only [List.nil_append, Sl]
    exact ⟨v, [], o2, [], rfl, by simp, hu, rfl, rfl⟩
  | none :: ρ, σ, os, h => by
    simp only [Sl] at h
    obtain ⟨x, r, rfl, h⟩ := h
    simp only [List.cons_append, Sl]
    exact ⟨x, _, rfl, Sl.snoc hu h⟩
  | some t :: ρ, σ, os, h => by
    simp only [Sl] at h
    obtain ⟨w, r, o1, o3, rfl, rfl, h1, h2⟩ := h
    simp only [List.cons_append, Sl]
    exact ⟨w, _, o1, o3 ++ o2, rfl, by simp, h1, Sl.snoc hu h2⟩
theorem TmTs.more {σ' : L2.St} {s' : Sx} : ∀ {ts : List Tm} {vs : List V} {ot : List Addr}, TmTs G pr σ s ts vs ot → (∀ (i : Nat) v, σ[i]? = some (some v) → σ'[i]? = some (some v)) → (∀ t v o, (∀ i, t ≠ .loc i) → (∀ a ∈ o, a ∈ ot) → TmR G s.H s.fz pr t v o → TmR G s'.H s'.fz pr t v o) → TmTs G pr σ' s' ts vs ot
  | [], vs, ot, h, hσ, hk => h
  | t :: ts, vs, ot, h, hσ, hk => by
    obtain ⟨v, r, o1, o2, rfl, rfl, h1, h2⟩ := h
    refine ⟨v, r, o1, o2, rfl, rfl, ?_, TmTs.more h2 hσ fun t v o hl ho h => hk t v o hl (fun a ha => List.mem_append_right _ (ho a ha)) h⟩
    cases t with
    | loc i => exact ⟨h1.1, hσ i v h1.2⟩
    | v k' d => exact hk _ _ _ (fun i z => nomatch z) (fun a ha => List.mem_append_left _ ha) h1
    | tp _ => exact hk _ _ _ (fun i z => nomatch z) (fun a ha => List.mem_append_left _ ha) h1
    | ls _ => exact hk _ _ _ (fun i z => nomatch z) (fun a ha => List.mem_append_left _ ha) h1
    | ob _ _ => exact hk _ _ _ (fun i z => nomatch z) (fun a ha => List.mem_append_left _ ha) h1
def eMake (c : Nat) (fn : Fn) (ms : List Md) (gs gk : Ss → OuL) (dfl : List D) : Ev := fun ρ => (gs ρ).bind fun ts ρ1 => (gk ρ1).bind fun us ρ2 => mkF c fn ms (ts ++ us ++ dfl.map (Tm.v .F)) ρ2
abbrev PKv (X : Cx) (G : Gx) (W : WX) (ios : List Nat) (xs : List Keyword) (g : Ss → OuL) : Prop := PK X xs (tEvs G W ios g)
end
end PV

namespace PV
open PySem PySem.Spec L2

/-! ### sorted(xs) of ints: a list, a tuple -/
section
open PyProof.Rows
variable {prog : Program} {w : World} {A : Around} {E : Value → Shared → Prop} {s : Shared}
theorem collectT {l : Addr} {vs : List Value} {Q : List Value → Shared → Prop} (hl : IsTup s.heap l vs.toArray) (hsz : vs.length ≤ sizeLine)
    (h : Q vs { s with heap := (s.heap.push (seqObj "list" #[] 0)).update s.heap.objs.size (Obj.mapSeq (· ++ vs.toArray)) }) : wpAny (model prog w) A (collect (.ref l)) Q E s := by
  obtain ⟨o, ho, hc, n, hd⟩ := hl
  unfold collect
  refine wpAny_bind (wpAny_runValue (codeAny_builtin F.entry_proto_collect ?_))
  rw [Around.under_plainId F.plain_proto_collect _]
  refine wpAny_bind (wpAny_newList (wpAny_pure ⟨Code.quiet_builtin _ (by decide +kernel), codeAny_builtin F.entry_list_iadd ?_⟩))
  show wpAny _ _ (Builtin.List.listExtendWith (.ref s.heap.objs.size) (.ref l) (.ref s.heap.objs.size)) _ _ { s with heap := s.heap.push (seqObj "list" #[] 0) }
  unfold Builtin.List.listExtendWith
  have h1 := Heap.get?_push_of_some (seqObj "list" #[] 0) ho
  have h2 : (s.heap.push (seqObj "list" #[] 0)).get? s.heap.objs.size = some (seqObj "list" #[] 0) := Heap.get?_push_size _ rfl
  refine wpAny_bind (wpAny_typeOf (T := "tuple") ⟨o, h1, hc⟩ ?_)
  have ht : (Value.type "tuple" == Value.type "tuple") = true := by rfl
  rw [if_pos (by rw [ht, Bool.or_true])]
  refine wpAny_bind (listItems_at h1 hd (wpAny_bind (listItems_at (xs := #[]) (n := 0) h2 rfl ?_)))
  rw [if_neg (by simp)]
  refine wpAny_bind (listUpdate_at (xs := #[]) (n := 0) h2 rfl ?_ (Nat.zero_le _) (by simp only [Array.size_append, List.size_toArray]; simp; omega))
  refine wpAny_pure (wpAny_bind (wpAny_load (get?_update_seq h2 _) ?_))
  show wpAny _ _ (pure ((#[] : Array Value) ++ vs.toArray).toList) Q E _
  rw [show ((#[] : Array Value) ++ vs.toArray).toList = vs by simp]
  exact wpAny_pure h
/-- sorted(t), t a tuple of ints -/
theorem sortedT {l : Addr} {vs : List Value} {ns : List Int} {Q : Value → Shared → Prop} (hl : IsTup s.heap l vs.toArray) (hi : IntsAre vs ns) (hz : vs.length ≤ sizeLine)
    (h : ∀ out : List Value, SrtO.Srtd SrtO.ltIv out → SrtO.Stb SrtO.ltIv out vs → Q (.ref (s.heap.objs.size + 1)) { s with heap := sortedAll s.heap vs out.toArray }) : wpAny (model prog w) A (call (.builtin "sorted") [.ref l]) Q E s := by
  refine Calls.call_function_entry kind_sorted plain_sorted entry_sorted (args_sorted1 _) ?_
  unfold Builtin.«sorted»
  refine wpAny_bind (m := checkCount "sorted" 1 1 _) (wpAny_pure (wpAny_bind (collectT hl hz (wpAny_bind (wpAny_newList ?_ hz)))))
  have e1 : ((s.heap.push (seqObj "list" #[] 0)).update s.heap.objs.size (Obj.mapSeq (· ++ vs.toArray))).objs.size = s.heap.objs.size + 1 := by rw [Heap.size_update, size_push']
  have e2 : (((s.heap.push (seqObj "list" #[] 0)).update s.heap.objs.size (Obj.mapSeq (· ++ vs.toArray))).push (seqObj "list" vs.toArray 0)).get? (s.heap.objs.size + 1) = some (seqObj "list" vs.toArray 0) := by
    rw [← e1]; exact Heap.get?_push_size _ rfl
  rw [e1]
  refine wpAny_bind (wpAny_holding (wpAny_call_entry slot_list_sort ⟨_, e2, rfl⟩ entry_list_sort (SrtO.list_sort_ord SrtO.swo_int e2 hz (fun h2 => SrtO.ints_sortable hi h2) fun out hs hb => ⟨_, rfl, ?_⟩) (args_list_sort _)))
  exact wpAny_pure ⟨_, rfl, h out hs hb⟩
end
/-- sorted(xs), a list or a tuple of ints -/
def rSrt (K : PySem.W.Frag) : List V → Hp → VK → Prop := fun vs H Q => ∃ (a : Addr) (ns : List Int), vs = [V.ref a] ∧ (SqL K H a (ns.map V.int) ∨ SqT K H a (ns.map V.int)) ∧
  ∀ (ns' : List Int) (p : Addr), ns'.Perm ns → ns'.Pairwise (· ≤ ·) → H p = none → Q (.ref p) (upd H p (.lst (ns'.map V.int)))
theorem cr_srt {X : Cx} : CallR X (.builtin "sorted") (rSrt X.K) := by
  intro pins s σ H vs us Q I r h
  obtain ⟨a, ns, rfl, hs | hs, q⟩ := h
  · exact cr_sortedI pins s σ H _ us Q I r ⟨a, ns, rfl, hs, q⟩
  · obtain ⟨its, rv, hl, hz⟩ := I.tuple hs
    rw [Vals.ref1 r]
    have hi := rv.ints
    refine sortedT hl hi (by rw [← rv.length]; exact hz) fun out h1 h2 => ?_
    obtain ⟨k1, k2, k3⟩ := SrtO.ints_out hi h1 h2
    obtain ⟨ep, he'⟩ := PyProof.Rows.sortedAll_at s.heap its out.toArray
    have hlen : ((out.map SrtO.iv).map V.int).length ≤ sizeLine := by
      rw [List.length_map, k2.length_eq]
      rw [List.length_map] at hz
      exact hz
    exact ⟨.ref _, upd H (s.heap.objs.size + 1) (.lst ((out.map SrtO.iv).map V.int)), I.laid (t' := s.toks) (fun _ _ => PyProof.Rows.sortedAll_old) (Nat.le_succ _) ⟨hlen, out, ep, vals_of_ints k1, he'⟩, rfl, q _ _ k2 k3 (I.hok.fresh (Nat.le_succ _))⟩
/-- the ascending list -/
def isort (ns : List Int) : List Int := ns.mergeSort (· ≤ ·)
theorem isort_perm (ns : List Int) : (isort ns).Perm ns := List.mergeSort_perm _ _
theorem isort_up (ns : List Int) : (isort ns).Pairwise (· ≤ ·) := by
  have := List.pairwise_mergeSort (le := fun a b : Int => decide (a ≤ b)) (fun a b c h1 h2 => by simp only [decide_eq_true_eq] at *; omega) (fun a b => by simp only [Bool.or_eq_true, decide_eq_true_eq]; omega) ns
  exact this.imp fun h => of_decide_eq_true h
theorem isort_uniq {a b : List Int} (p : a.Perm b) (h1 : a.Pairwise (· ≤ ·)) (h2 : b.Pairwise (· ≤ ·)) : a = b := p.eq_of_pairwise (fun x y _ _ h1 h2 => Int.le_antisymm h1 h2) h1 h2
theorem isort_of {ns ms : List Int} (p : ms.Perm ns) (h : ms.Pairwise (· ≤ ·)) : ms = isort ns := isort_uniq (p.trans (isort_perm ns).symm) h (isort_up ns)
section
variable {G : Gx} {W : WX} {pr : Addr → Prop} {io : List (Nat × V)} {σ : L2.St} {s s1 : Sx} {ios : List Nat} {Q : VK} {X : Cx} {a b c : Expr} {pos p : Pos} {x : Str} {ga gb gc : Ev}
def opSort (t : Tm) : Option Tm := match toD t with
  | .lst xs => (intsD xs).map fun ns => .v .O (.lst ((isort ns).map .int))
  | .tup xs => (intsD xs).map fun ns => .v .O (.lst ((isort ns).map .int))
  | .kt => some (.v .O (.lst []))
  | _ => none
def eSorted : Ev → Ev := eOp1 opSort
theorem kt_mono {K : PySem.W.Frag} {H : Hp} {a : Addr} {xs : List V} (h : SqT K (fun _ => none) a xs) : SqT K H a xs := by
  rcases h with h | h
  · exfalso
    rcases h with h | ⟨o, h⟩ <;> cases h
  · exact .inr h
theorem v_sorted (hK : G.K = X.K) (hm : X.mg "sorted" = none) (ha : PEv X G W ios a ga) (hg : Gl X "sorted" := by rfl) (hs : starEach [a] X.env = (false, eval a X.env) :: starEach [] X.env := by rfl) : PEv X G W ios (.Call (.Name "sorted" p) [a] [] pos) (eSorted ga) :=
  v_b1 cr_srt (by
    intro pr io σ s x tx t ox Q hr hx e q
    have hd := TmR.toD _ _ _ hx
    unfold opSort at e
    split at e
    · rename_i xs hxs
      rw [hxs] at hd
      simp only [Rep] at hd
      obtain ⟨a, vs, rfl, _, h1, h2⟩ := hd
      simp only [Option.map_eq_some_iff] at e
      obtain ⟨ns, e, rfl⟩ := e
      rw [intsD_eq e] at h2
      rw [reps_ints h2] at h1
      exact ⟨a, ns, rfl, .inl (.of h1), fun ns' p hp hu hn => by rw [isort_of hp hu]; exact q.lst hr (reps_of_ints _) hn⟩
    · rename_i xs hxs
      rw [hxs] at hd
      simp only [Rep] at hd
      obtain ⟨a, vs, rfl, h1, h2⟩ := hd
      simp only [Option.map_eq_some_iff] at e
      obtain ⟨ns, e, rfl⟩ := e
      rw [intsD_eq e] at h2
      rw [reps_ints h2] at h1
      exact ⟨a, ns, rfl, .inr (.of h1), fun ns' p hp hu hn => by rw [isort_of hp hu]; exact q.lst hr (reps_of_ints _) hn⟩
    · rename_i hxs
      rw [hxs] at hd
      simp only [Rep] at hd
      obtain ⟨a, rfl, h1⟩ := hd
      cases e
      refine ⟨a, [], rfl, .inr (kt_mono (hK ▸ h1)), fun ns' p hp hu hn => ?_⟩
      have := hp.eq_nil
      subst this
      exact q.lst hr (by simp [Reps]) hn
    · cases e) hm ha hg (hs := hs)

/-! ### repr(x) -/
def reprD (d : D) : Option D := match toPy d with
  | some (.tuple ds) => if PyData.showable (.tuple ds) = true ∧ PyData.hasDict (.tuple ds) = false ∧ PyData.depth (.tuple ds) < 60 ∧ (PyData.shown (.tuple ds)).length ≤ sizeLine then some (.str (PyData.shown (.tuple ds))) else none
  | some (.list ds) => if PyData.showable (.list ds) = true ∧ PyData.hasDict (.list ds) = false ∧ PyData.depth (.list ds) < 60 ∧ (PyData.shown (.list ds)).length ≤ sizeLine then some (.str (PyData.shown (.list ds))) else none
  | some (.int i) => if i.natAbs.log2 < 1920 then some (.str (toString i)) else none
  | _ => none
def rReprC (X : Cx) : List V → Hp → VK → Prop := fun vs H Q => ∃ (a : Addr) (d : PyData), vs = [V.ref a] ∧ Dp X.K H (.ref a) d ∧ PyData.showable d = true ∧ PyData.hasDict d = false ∧ PyData.depth d < 60 ∧ (PyData.shown d).length ≤ sizeLine ∧ Q (.str d.shown) H
theorem cr_reprC {k : Nat} (hr : RoomG k X.A) : CallR X (.builtin "repr") (rReprC X) := by
  intro pins s σ H vs us Q I r h
  obtain ⟨a, d, rfl, hd, h1, h2, h3, h4, q⟩ := h
  rw [Vals.ref1 r]
  obtain ⟨as, rd⟩ := Dp.reads I d _ (.ref a) hd rfl
  have hu := hr.r.un
  exact repr_of_reads' rd h1 (PyData.noDict_hsm h2) hr.g (by omega) (fun _ _ e => e) (fun h' u tk hk => ⟨.str d.shown, H, I.kept hk, ⟨u, rfl⟩, q⟩) h4
def rRepr (X : Cx) : List V → Hp → VK → Prop := fun vs H Q => (∃ i, vs = [.int i] ∧ i.natAbs.log2 < 1920 ∧ Q (.str (toString i)) H) ∨ rReprC X vs H Q
theorem cr_repr {k : Nat} (hr : RoomG k X.A) : CallR X (.builtin "repr") (rRepr X) := by
  intro pins s σ H vs us Q I r h
  rcases h with h | h
  · exact SkE.call_repr_int pins s σ H vs us Q I r h
  · exact cr_reprC hr pins s σ H vs us Q I r h
def eRepr : Ev → Ev := eOp1 (rd1 reprD)
end
end PV

namespace PV
open PySem PySem.Spec L2

/-! ### tuple(range(..)), list(range(..)) -/
section
variable {G : Gx} {W : WX} {pr : Addr → Prop} {io : List (Nat × V)} {σ : L2.St} {s s1 : Sx} {ios : List Nat} {Q : VK} {X : Cx} {a b c : Expr} {pos p pos2 p2 : Pos} {x : Str} {ga gb gc : Ev}
theorem OuP.mono {o : Ou} {Q' : VK} (h : OuP G W pr io σ s o Q) (i : ∀ v H, Q v H → Q' v H) : OuP G W pr io σ s o Q' := by
  cases o with
  | ok t ρ => exact fun v s' ot h1 h2 h3 h4 h5 => i _ _ (h v s' ot h1 h2 h3 h4 h5)
  | ex e ρ => exact h
  | no => exact h
def rgD (i j : Int) : List D := (List.range (j - i).toNat).map fun (n : Nat) => .int (i + (n : Int))
def rgB (i j : Int) : Bool := decide (-(2 ^ 62) ≤ i ∧ i < 2 ^ 62 ∧ -(2 ^ 62) ≤ j ∧ j < 2 ^ 62 ∧ (j - i).toNat ≤ 2 ^ 24)
def opRg (tup : Bool) (t u : Tm) : Option Tm := match toD t, toD u with
  | .int i, .int j => if rgB i j = true then some (if tup = true then .v .F (.tup (rgD i j)) else .v .O (.lst (rgD i j))) else none
  | _, _ => none
def eTupR (tup : Bool) : Ev → Ev → Ev := eOp2 (opRg tup)
def eZ : Ev := fun ρ => .ok (.v .F (.int 0)) ρ
end

/-! ### the head: a law's promise at the heap behind the top -/
section
open PyProof.Rows
/-- what holds of a law's call -/
def LawEnd (P : Program) (w : World) (fa a : Addr) (s₁ : Shared) : Prop := codeAny (model P w) callerA (.call (.ref fa) ⟨[.ref a], []⟩) (fun r s' => r = .ok (.ret (.bool true)) ∧ OldK s₁.heap s'.heap ∧ s'.os = s₁.os ∧ AllBare s'.gens) s₁
theorem lawEnd {P : Program} {w : World} {K : PySem.W.Frag} {mg mb : Str → Option Value} {k : Nat} {fa a : Addr} {fd : FuncData} {x : Str} {sp : Sp} {s₁ : Shared} {vs : List Value} {ns : List Int}
    (KX : K.In s₁.heap) (hns : s₁.heap.Ns mainGlobals mg) (hb : s₁.heap.Ns builtinsNs mb) (hbb : ∀ x : Str, x ≠ "__name__" → mb x = bootBuiltins x) (hlim : s₁.heap.NoLimit) (hg : s₁.gens = #[])
    (ha : s₁.heap.get? a = some { cls := .type "list", data := .seq vs.toArray }) (hi : IntsAre vs ns) (hl : ns.length ≤ sizeLine) (hr : RoomG k callerA)
    (F : ∀ base : Heap, K.In base → base.Ns mainGlobals mg → FnG P w K mg base k fa fd [x] sp) (hbind : ∀ (s : Shared) (u : Value), BindsTo s fd ⟨[u], []⟩ [(x, u)])
    (hsp : ∀ H : Hp, Only H → SqL K H a (ns.map V.int) → sp [.ref a] H (fun v _ => v = .bl true) fun _ _ _ => False) : LawEnd P w fa a s₁ := by
  have rv := vals_ints hi
  have go : ∀ H : Hp, Only H → SqL K H a (ns.map V.int) → HOk P w H s₁.heap → (∀ b, H b ≠ none → b = a ∧ K.lookup a = none) → LawEnd P w fa a s₁ := by
    intro H hO hS hok hA
    have old : ∀ {b : Addr} {o : Obj}, s₁.heap.get? b = some o → b ≠ a ∨ K.lookup a ≠ none → (hidT s₁.heap H).get? b = some o := fun {b o} e n => hidT_get e (by
      cases q : H b with
      | none => rfl
      | some u =>
        obtain ⟨z1, z2⟩ := hA b (by rw [q]; simp)
        rcases n with n | n
        · exact absurd z1 n
        · exact absurd z2 n)
    have space : ∀ {b : Addr} {m : Str → Option Value}, s₁.heap.Ns b m → (hidT s₁.heap H).Ns b m := fun {b m} ⟨o, es, ep, e, d, r⟩ => ⟨o, es, ep, old e (.inl fun z => by
      subst z
      rw [ha] at e
      cases e
      cases (show Data.seq vs.toArray _ = Data.dict es ep from d)), d, r⟩
    have kin : K.In (hidT s₁.heap H) := fun b o e => old (KX b o e) (by
      by_cases z : b = a
      · subst z; exact .inr (by rw [e]; simp)
      · exact .inl z)
    obtain ⟨mc, l1, l2⟩ := hlim
    have e0 : Env0 P w K mg (hidT s₁.heap H) callerA [] s₁ H := ⟨rfl, ⟨kin, space hns, ⟨mb, space hb, hbb⟩, mc, space l1, l2⟩, fun b o e => of_hidT e, Nat.le_of_eq (hidT_size _ _), trivial, fun b z => (List.not_mem_nil z).elim, hok, .of_eq hg⟩
    refine codeAny_mono ((F _ kin (space hns)).go callerA [] s₁ H ⟨[.ref a], []⟩ [.ref a] [.ref a] _ _ hr e0 (hbind s₁ (.ref a)) (.cons rfl .nil) (hsp H hO hS)) fun r s' h => ?_
    match r, h with
    | .error e, h => obtain ⟨_, _, _, _, _, _, _, _, _, _, _, _, z⟩ := h; exact z.elim
    | .ok .next, h => exact h.elim
    | .ok .brk, h => exact h.elim
    | .ok .cont, h => exact h.elim
    | .ok (.ret u), h =>
      obtain ⟨v, H', os, bare, un, hok', r', q⟩ := h
      cases (show v = .bl true from q)
      cases (show u = Value.bool true from r')
      refine ⟨rfl, OldK.of_keep fun b o e => ?_, os, bare⟩
      rcases hO b with z | ⟨ob, xs, z⟩
      · exact un.keep b o e z (fun y => (List.not_mem_nil y).elim) (by simp)
      · have z1 := (hok b _ z).1
        have z2 := (hok' b _ (un.frzs b ob _ z)).1
        rw [e] at z1
        cases z1
        exact z2
  by_cases hk : K.lookup a = none
  · refine go (fun b => if b = a then some (.frz { cls := .type "list", data := .seq vs.toArray } (.lst (ns.map V.int))) else none) (fun b => ?_) (.inl (.inr ⟨{ cls := .type "list", data := .seq vs.toArray }, if_pos rfl⟩)) (fun b u z => ?_) fun b z => ?_
    · by_cases e : b = a
      · exact .inr ⟨_, _, if_pos e⟩
      · exact .inl (if_neg e)
    · by_cases e : b = a
      · have z' := (if_pos e).symm.trans z
        cases z'
        subst e
        exact ⟨ha, by rw [List.length_map]; exact hl, vs, _, rv, ha⟩
      · cases (if_neg e).symm.trans z
    · by_cases e : b = a
      · exact ⟨e, hk⟩
      · exact absurd (if_neg e) z
  · obtain ⟨o, ho⟩ := Option.ne_none_iff_exists'.mp hk
    have e := KX a o ho
    rw [ha] at e
    cases e
    exact go (fun _ => none) (fun _ => .inl rfl) (.inr ⟨_, vs.toArray, _, ho, rfl, rfl, rfl, by rw [List.size_toArray, hi.length]; exact hl, by simpa using rv⟩) (fun b u z => by cases (show (none : Option HO) = some u from z)) fun b z => absurd rfl z
end
end PV

namespace PV
open PySem PySem.Spec L2

/-! ### the end -/
theorem walkG {l : PySem.W.OpenLaw} {n k : Nat} {q : Program} {loose : List Str} {XP : (Str → Option Value) → Heap → Prop} {YP : World → Heap → Prop} {d : DefRec} {K : Params → PySem.W.Frag} {x : Str} {f : Fn}
    (hn : l.most = some n) (hn2 : n ≤ sizeLine) (hdf : d.params.defaults = []) (hr : RoomG k callerA) (hY : ∀ (w : World) (h : Heap), YP w h → (K w.params).In h)
    (hf : ∀ ns : List Int, ns.length ≤ n → f [.v .B (.scr ns)] = .ok (.v .F (.bl true)) [])
    (F : ∀ (w : World) (mg : Str → Option Value) (fa : Addr) (h : Heap), (K w.params).In h → h.Ns mainGlobals mg → mg d.name = some (.ref fa) →
      ∃ (fd : FuncData) (G : Gx), G.K = K w.params ∧ (∀ (s : Shared) (u : Value), BindsTo s fd ⟨[u], []⟩ [(x, u)]) ∧ ∀ base : Heap, (K w.params).In base → base.Ns mainGlobals mg → FnG l.prog w (K w.params) mg base k fa fd [x] (spV G 1 [] f)) :
    PySem.W.WalkO q loose XP YP l.row.toRowW d [] (fun f vs => PySem.call f vs) := by
  refine Att.attach_call hn hdf fun w s₀ s₁ mg mb fa o pm cd doc a vs ns G0 Y ho hd hcd hmg hobj hints hlen hg => ?_
  have KX := hY w _ Y
  obtain ⟨fd, G, hGK, hb, hF⟩ := F w mg fa _ KX G0.T.g hmg
  refine lawEnd KX G0.T.g G0.T.b G0.T.builtins G0.T.nolimit hg hobj hints (Nat.le_trans hlen hn2) hr hF hb fun H hO hS => ?_
  have hsc : ScrAt G.K H a (ns.map id) := by
    rw [List.map_id]
    rcases hS with (h | ⟨o, h⟩) | h
    · rcases hO a with z | ⟨o, xs, z⟩
      · rw [z] at h; cases h
      · rw [z] at h; cases h
    · exact .inl ⟨o, h⟩
    · exact .inr (.inr (hGK ▸ h))
  rw [List.map_id] at hsc
  refine ⟨rfl, fun _ => False, [], { H := H, fz := fun _ => False, os := [], ρ := [some (.v .B (.scr ns))] }, [.v .B (.scr ns)], rfl, rfl, rfl, ⟨?_, List.nodup_nil, fun a ha => (List.not_mem_nil ha).elim, fun a h => (h.elim id id).elim, fun p hp => (List.not_mem_nil hp).elim⟩, ?_⟩
  · simp only [List.map_cons, List.map_nil, Sl]
    refine ⟨.ref a, [], [], [], rfl, rfl, ?_, rfl, rfl⟩
    simp only [TmR, Rep]
    exact ⟨trivial, a, rfl, hsc⟩
  · rw [hf ns hlen]
    intro v s' oio ot x dom hu ht _ _
    simp only [TmR, Rep] at ht
    exact ht.2
end PV

namespace PV
open PySem PySem.Spec L2
section
variable {G : Gx} {W : WX} {pr : Addr → Prop} {io : List (Nat × V)} {σ : L2.St} {s s1 : Sx} {ios : List Nat} {Q : VK} {X : Cx} {a b c : Expr} {pos p px py pz pt pt2 : Pos} {kt k2 : Nat} {x y z name : Str} {ga gb gc : Ev} {k : Nat}
/-! ### a, b = x, y -/
def stAll : List Nat → List Tm → Ss → Option Ss
  | [], [], ρ => some ρ
  | i :: is, t :: ts, ρ => if isLoc t = false ∧ i < ρ.length then stAll is ts (ρ.set i (some t)) else none
  | _, _, _ => none
def setAll : L2.St → List Nat → List V → L2.St
  | σ, i :: is, v :: vs => setAll (σ.set i (some v)) is vs
  | σ, _, _ => σ
theorem SR.storeX (r : SR G pr io σ s1) {t : Tm} {v : V} {ot : List Addr} (p : Tp G pr σ s1 t v ot) (hl : isLoc t = false) {i : Nat} (hi : i < s1.ρ.length) (hio : i ∉ io.map Prod.fst) :
    ∃ os', SR G pr io (σ.set i (some v)) { s1 with ρ := s1.ρ.set i (some t), os := os' } ∧ ∀ a ∈ os', a ∈ s1.os ∨ a ∈ ot := by
  obtain ⟨os', r2, x2⟩ := r.store (s := { s1 with os := s1.os ++ ot }) Ext.minus p (fun a ha => .inl (List.mem_append_right _ ha)) hl hi hio
  refine ⟨os', r2, fun a ha => ?_⟩
  rcases x2.oso a ha with h | h
  · exact List.mem_append.mp h
  · exact absurd h (r2.own a ha).ne
theorem stAll_ok : ∀ {is : List Nat} {ts : List Tm} {vs : List V} {ot : List Addr} {s1 : Sx} {σ : L2.St} {ρ2 : Ss}, SR G pr io σ s1 → Ext s s1 → TmRs G s1.H s1.fz pr ts vs ot → ot.Nodup → (∀ a ∈ ot, ¬ s1.fz a ∧ ¬ pr a ∧ a ∉ s1.os) → Frs s ot → (∀ i ∈ is, i ∉ io.map Prod.fst) →
    stAll is ts s1.ρ = some ρ2 → ∃ os', SR G pr io (setAll σ is vs) { s1 with ρ := ρ2, os := os' } ∧ Ext s { s1 with ρ := ρ2, os := os' }
  | [], [], vs, ot, s1, σ, ρ2, r, x, h, nd, sep, f, hio, e => by
    simp only [stAll, Option.some.injEq] at e
    subst e
    simp only [TmRs] at h
    obtain ⟨rfl, rfl⟩ := h
    exact ⟨s1.os, r, x⟩
  | [], t :: ts, vs, ot, s1, σ, ρ2, r, x, h, nd, sep, f, hio, e => by simp [stAll] at e
  | i :: is, [], vs, ot, s1, σ, ρ2, r, x, h, nd, sep, f, hio, e => by simp [stAll] at e
  | i :: is, t :: ts, vs, ot, s1, σ, ρ2, r, x, h, nd, sep, f, hio, e => by
    simp only [TmRs] at h
    obtain ⟨v, vr, o1, o2, rfl, rfl, h1, h2⟩ := h
    rw [List.nodup_append] at nd
    simp only [stAll] at e
    split at e
    · rename_i hc
      obtain ⟨os1, r2, k2⟩ := r.storeX ⟨loc_of h1, nd.1, fun a ha => sep a (List.mem_append_left _ ha)⟩ hc.1 hc.2 (hio i List.mem_cons_self)
      have x2 : Ext s { s1 with ρ := s1.ρ.set i (some t), os := os1 } := ⟨x.keep, x.dom, x.tk, x.fz, x.fzo, fun a ha => (k2 a ha).elim (x.oso a) fun z => f a (List.mem_append_left _ z)⟩
      exact stAll_ok (is := is) (ts := ts) (vs := vr) (ot := o2) (s1 := { s1 with ρ := s1.ρ.set i (some t), os := os1 }) r2 x2 h2 nd.2.1 (fun a ha => ⟨(sep a (List.mem_append_right _ ha)).1, (sep a (List.mem_append_right _ ha)).2.1, fun z => (k2 a z).elim (sep a (List.mem_append_right _ ha)).2.2 fun y => nd.2.2 a y a ha rfl⟩)
        (fun a ha => f a (List.mem_append_right _ ha)) (fun j hj => hio j (List.mem_cons_of_mem _ hj)) e
    · cases e
theorem stAll_loc : ∀ {is : List Nat} {ts : List Tm} {ρ ρ2 : Ss}, stAll is ts ρ = some ρ2 → (ts.all fun t => match t with | .loc _ => false | _ => true) = true
  | [], [], ρ, ρ2, e => rfl
  | [], t :: ts, ρ, ρ2, e => by simp [stAll] at e
  | i :: is, [], ρ, ρ2, e => rfl
  | i :: is, t :: ts, ρ, ρ2, e => by
    simp only [stAll] at e
    split at e
    · rename_i hc
      rw [List.all_cons, stAll_loc e, Bool.and_true]
      cases t with
      | loc i => simp [isLoc] at hc
      | _ => rfl
    · cases e
def sPar (is : List Nat) (gs : Ss → OuL) : Sm := fun ρ => match gs ρ with
  | .ok ts ρ1 => match stAll is ts ρ1 with
    | some ρ2 => .nx ρ2
    | none => .no
  | .ex e ρ1 => .ex e ρ1
  | .no => .no
theorem par_read {is : List Nat} {gs : Ss → OuL} {D : Ends} {H : Hp} (hio : ∀ i ∈ is, i ∉ ios) (q : tSv G W ios (sPar is gs) D σ H) : tEvs G W ios gs σ H fun vs H1 => vs.length = is.length ∧ D.nx (setAll σ is vs) H1 := by
  obtain ⟨pr, io, s, rfl, hi, r, q⟩ := of_tSv q
  refine tEvs_of hi r ?_
  unfold sPar at q
  cases e : gs s.ρ with
  | no => rw [e] at q; exact q.elim
  | ex e' ρ' => rw [e] at q; exact fun cls d s' h1 h2 h3 h4 => q cls d σ s' h1 h2 h3 h4
  | ok ts ρ' =>
    rw [e] at q
    intro vs s1 ot e1 r1 x1 p1 f1
    subst e1
    dsimp only at q
    cases e2 : stAll is ts s1.ρ with
    | none => rw [e2] at q; exact q.elim
    | some ρ2 =>
      rw [e2] at q
      have hl : ∀ {is : List Nat} {ts : List Tm} {ρ ρ2 : Ss}, stAll is ts ρ = some ρ2 → ts.length = is.length := by
        intro is
        induction is with
        | nil => intro ts ρ ρ2 e; cases ts <;> simp [stAll] at e ⊢
        | cons i is ih =>
          intro ts ρ ρ2 e
          cases ts with
          | nil => simp [stAll] at e
          | cons t ts =>
            simp only [stAll] at e
            split at e
            · simp [ih e]
            · cases e
      obtain ⟨os', r2, x2⟩ := stAll_ok r1 x1 (p1.rel.tm (stAll_loc e2)) p1.nd p1.sep f1 (fun i h => by rw [hi]; exact hio i h) e2
      exact ⟨by rw [← p1.rel.len]; exact hl e2, q _ { s1 with ρ := ρ2, os := os' } rfl r2 x2⟩
theorem OuLP.mono {o : OuL} {Q Q' : List V → Hp → Prop} (h : OuLP G W pr io σ s o Q) (i : ∀ v H, Q v H → Q' v H) : OuLP G W pr io σ s o Q' := by
  cases o with
  | ok t ρ => exact fun v s' ot h1 h2 h3 h4 h5 => i _ _ (h v s' ot h1 h2 h3 h4 h5)
  | ex e ρ => exact h
  | no => exact h
theorem s_par {i j : Nat} {gs : Ss → OuL} (hc : X.calm = true) (hN : X.N.Nodup) (hij : i ≠ j) (hio : ∀ l ∈ [i, j], l ∉ ios) (ha : PAv X G W ios [a, b] gs) (hi : X.N[i]? = some x := by rfl) (hj : X.N[j]? = some y := by rfl) (hx : X.env.scope.names.lookup x = some .local := by rfl) (hy : X.env.scope.names.lookup y = some .local := by rfl)
    (hw : swappedStores [.Tuple [.Name x px, .Name y py] kt pt] (.Tuple [a, b] k2 pt2) X.env = pure (some [x, y]) := by rfl) (hs : swapsWithSole [.Tuple [.Name x px, .Name y py] kt pt] (.Tuple [a, b] k2 pt2) pos.line X.env = pure false := by rfl) :
    PSv X G W ios (.Assign [.Tuple [.Name x px, .Name y py] kt pt] (.Tuple [a, b] k2 pt2) pos) (sPar [i, j] gs) := ps_imp (ps_par hc hN hi hj hij hx hy ha hw hs) fun D σ H q => by
  have h := par_read hio q
  obtain ⟨pr, io, s, rfl, hi, r, h⟩ := of_tEvs h
  refine (tEvs_of hi r (OuLP.mono h fun vs H1 h => ?_) : tEvs G W ios gs σ s.H _)
  obtain ⟨h1, h2⟩ := h
  match vs, h1 with
  | [v, w], _ => exact ⟨v, w, rfl, h2⟩
/-! ### tests by comparison -/
theorem t_eq (hr : Room k X.A) (ha : PEv X G W ios a ga) (hb : PEv X G W ios b gb) : PTv X G W ios (.Compare a [.Eq] [b] pos) (eEq ga gb) := t_cmp (op_eq.or (op_eqD hr.units)) (Rd2.op rdEq) ha hb (nomark _)
theorem t_ne (hr : Room k X.A) (ha : PEv X G W ios a ga) (hb : PEv X G W ios b gb) : PTv X G W ios (.Compare a [.NotEq] [b] pos) (eNe ga gb) := t_cmp (op_ne.or (op_neD hr.units)) (Rd2.op rdNe) ha hb (nomark _)
theorem t_lt (ha : PEv X G W ios a ga) (hb : PEv X G W ios b gb) : PTv X G W ios (.Compare a [.Lt] [b] pos) (eLt ga gb) := t_cmp op_lt (Rd2.op rdC) ha hb (nomark _)
theorem t_gt (ha : PEv X G W ios a ga) (hb : PEv X G W ios b gb) : PTv X G W ios (.Compare a [.Gt] [b] pos) (eGt ga gb) := t_cmp op_gt (Rd2.op rdC) ha hb (nomark _)
theorem t_isN (ha : PEv X G W ios a ga) (hb : PEv X G W ios b gb) : PTv X G W ios (.Compare a [.Is] [b] pos) (eIsN ga gb) := t_cmp op_isN (Rd2.op rdIsN) ha hb (nomark _)
theorem t_notN (ha : PEv X G W ios a ga) (hb : PEv X G W ios b gb) : PTv X G W ios (.Compare a [.IsNot] [b] pos) (eNotN ga gb) := t_cmp op_notN (Rd2.op rdNotN) ha hb (nomark _)
/-- a sign changed -/
def negD : D → Option D
  | .int i => some (.int (-i))
  | _ => none
def eNeg : Ev → Ev := eOp1 (rd1 negD)
theorem v_neg (ha : PEv X G W ios a ga) : PEv X G W ios (.UnaryOp .USub a pos) (eNeg ga) := v_un un_neg (Rd1.op (by
  intro H x dx d Q hx e q
  cases dx <;> simp only [negD, Option.some.injEq, reduceCtorEq] at e
  subst e
  simp only [Rep] at hx
  subst hx
  exact ⟨_, rfl, q _ fun P => by simp only [Rep]⟩)) ha
/-! ### op= on ints -/
def addI2 : Tm → Tm → Option Tm := rd2 (dI2 fun i j => some (i + j))
def subI2 : Tm → Tm → Option Tm := rd2 (dI2 fun i j => some (i - j))
def mulI2 : Tm → Tm → Option Tm := rd2 (dI2 mulI)
end
end PV

namespace PV
open PySem PySem.Spec L2
def eN : Ev := eC .non
/-- an empty tuple's object -/
def tupE (o : Obj) : Bool := match o with
  | ⟨.type "tuple", none, .seq its _, _⟩ => its.isEmpty
  | _ => false
end PV

namespace PV
open PySem PySem.Spec L2
/-! ### evaluating by rewriting -/
section
variable {t u : Tm} {ρ : Ss} {k : Tm → Ss → Ou} {kL : Tm → Ss → OuL} {kk : List Tm → Ss → Ou} {kkL : List Tm → Ss → OuL} {kF : Tm → Ss → Fl} {ts : List Tm} {e : Er}
@[simp] theorem bind_ok : (Ou.ok t ρ).bind k = k t ρ := rfl
@[simp] theorem bind_ex : (Ou.ex e ρ).bind k = .ex e ρ := rfl
@[simp] theorem bind_no : Ou.no.bind k = .no := rfl
@[simp] theorem bindL_ok : (Ou.ok t ρ).bindL kL = kL t ρ := rfl
@[simp] theorem lbind_ok : (OuL.ok ts ρ).bind kk = kk ts ρ := rfl
@[simp] theorem lbind_ex : (OuL.ex e ρ).bind kk = .ex e ρ := rfl
@[simp] theorem lbindL_ok : (OuL.ok ts ρ).bindL kkL = kkL ts ρ := rfl
@[simp] theorem toF_ok : (Ou.ok t ρ).toF kF = kF t ρ := rfl
@[simp] theorem toF_ex : (Ou.ex e ρ).toF kF = .ex e ρ := rfl
def Fl.nxt (o : Fl) (g : Sm) : Fl := match o with
  | .nx ρ => g ρ
  | o => o
@[simp] theorem nxt_nx {g : Sm} : (Fl.nx ρ).nxt g = g ρ := rfl
@[simp] theorem nxt_rt {g : Sm} : (Fl.rt t ρ).nxt g = .rt t ρ := rfl
@[simp] theorem nxt_ex {g : Sm} : (Fl.ex e ρ).nxt g = .ex e ρ := rfl
@[simp] theorem nxt_bk {g : Sm} : (Fl.bk ρ).nxt g = .bk ρ := rfl
@[simp] theorem nxt_ct {g : Sm} : (Fl.ct ρ).nxt g = .ct ρ := rfl
@[simp] theorem nxt_ite {c : Prop} [Decidable c] {a b : Fl} {g : Sm} : (if c then a else b).nxt g = if c then a.nxt g else b.nxt g := by split <;> rfl
@[simp] theorem seq_eq {g1 g2 : Sm} : sSeq g1 g2 ρ = (g1 ρ).nxt g2 := by unfold sSeq Fl.nxt; cases g1 ρ <;> rfl
@[simp] theorem nil_eq : sNil ρ = .nx ρ := rfl
@[simp] theorem brk_eq : sBreak ρ = .bk ρ := rfl
@[simp] theorem cnt_eq : sCont ρ = .ct ρ := rfl
@[simp] theorem ret_eq {g : Ev} : sRet g ρ = (g ρ).toF fun t ρ1 => .rt t ρ1 := rfl
@[simp] theorem retN_eq : sRetN ρ = .rt (.v .F .non) ρ := rfl
@[simp] theorem expr_eq {g : Ev} : sExpr g ρ = (g ρ).toF fun _ ρ1 => .nx ρ1 := rfl
def iteT {α : Type} (o : Option Bool) (a b n : α) : α := match o with
  | some true => a
  | some false => b
  | none => n
@[simp] theorem iteT_some {α : Type} {b : Bool} {x y n : α} : iteT (some b) x y n = if b = true then x else y := by cases b <;> rfl
@[simp] theorem sif_eq {gc : Ev} {g1 g2 : Sm} : sIf gc g1 g2 ρ = (gc ρ).toF fun t ρ1 => iteT (asB t) (g1 ρ1) (g2 ρ1) .no := by
  unfold sIf iteT
  rfl
@[simp] theorem eif_eq {gc g1 g2 : Ev} : eIf gc g1 g2 ρ = (gc ρ).bind fun t ρ1 => iteT (asB t) (g1 ρ1) (g2 ρ1) .no := by
  unfold eIf iteT
  rfl
@[simp] theorem eand_eq {g1 g2 : Ev} : eAnd g1 g2 ρ = (g1 ρ).bind fun t ρ1 => iteT (asB t) (g2 ρ1) (.ok (.v .F (.bl false)) ρ1) .no := by
  unfold eAnd iteT
  rfl
@[simp] theorem eor_eq {g1 g2 : Ev} : eOr g1 g2 ρ = (g1 ρ).bind fun t ρ1 => iteT (asB t) (.ok (.v .F (.bl true)) ρ1) (g2 ρ1) .no := by
  unfold eOr iteT
  rfl
def okO (o : Option Tm) (ρ : Ss) : Ou := match o with
  | some r => .ok r ρ
  | none => .no
@[simp] theorem okO_some : okO (some t) ρ = .ok t ρ := rfl
@[simp] theorem okO_none : okO none ρ = .no := rfl
@[simp] theorem okO_ite {c : Prop} [Decidable c] {a b : Option Tm} : okO (if c then a else b) ρ = if c then okO a ρ else okO b ρ := by split <;> rfl
@[simp] theorem enot_eq {g : Ev} : eNot g ρ = (g ρ).bind fun t ρ1 => okO ((asB t).map fun b => .v .F (.bl (!b))) ρ1 := by
  unfold eNot okO
  congr 1
  funext t ρ1
  cases asB t <;> rfl
@[simp] theorem op1_eq {f : Tm → Option Tm} {g : Ev} : eOp1 f g ρ = (g ρ).bind fun t ρ1 => okO ((derT ρ1 t).bind f) ρ1 := rfl
@[simp] theorem op2_eq {f : Tm → Tm → Option Tm} {ga gb : Ev} : eOp2 f ga gb ρ = (ga ρ).bind fun t ρ1 => (gb ρ1).bind fun u ρ2 => okO ((derT ρ2 t).bind fun x => (derT ρ2 u).bind fun y => f x y) ρ2 := by
  unfold eOp2 okO
  congr 1
  funext t ρ1
  congr 1
  funext u ρ2
  rcases derT ρ2 t with _ | a <;> rcases derT ρ2 u with _ | b <;> try rfl
  all_goals (simp only [Option.bind_some]; cases f a b <;> rfl)
@[simp] theorem der_v {k : Kd} {d : D} : derT ρ (.v k d) = some (.v k d) := rfl
@[simp] theorem der_ob {c : Nat} : derT ρ (.ob c ts) = some (.ob c ts) := rfl
@[simp] theorem c_eq {d : D} : eC d ρ = .ok (.v .F d) ρ := rfl
@[simp] theorem n_eq : eN ρ = .ok (.v .F .non) ρ := rfl
@[simp] theorem z_eq : eZ ρ = .ok (.v .F (.int 0)) ρ := rfl
@[simp] theorem true_eq : eTrue ρ = .ok (.v .F (.bl true)) ρ := rfl
@[simp] theorem gnil_eq : gNil ρ = .ok [] ρ := rfl
@[simp] theorem gcons_eq {g : Ev} {gs : Ss → OuL} : gCons g gs ρ = (g ρ).bindL fun t ρ1 => (gs ρ1).bindL fun ts ρ2 => .ok (t :: ts) ρ2 := rfl
@[simp] theorem call_eq {f : Fn} {ms : List Md} {gs : Ss → OuL} : eCall f ms gs ρ = (gs ρ).bind (callF f ms) := rfl
@[simp] theorem toD_v {k : Kd} {d : D} : toD (.v k d) = d := by unfold toD; rfl
@[simp] theorem asB_v {k : Kd} {b : Bool} : asB (.v k (.bl b)) = some b := rfl
@[simp] theorem asI_v {k : Kd} {i : Int} : asI (.v k (.int i)) = some i := rfl
@[simp] theorem isLoc_v {k : Kd} {d : D} : isLoc (.v k d) = false := rfl
@[simp] theorem isLoc_ob {c : Nat} : isLoc (.ob c ts) = false := rfl
@[simp] theorem flat_int {i : Int} : flat (.int i) = true := by unfold flat; rfl
@[simp] theorem flat_bl {i : Bool} : flat (.bl i) = true := by unfold flat; rfl
@[simp] theorem flat_str {i : Str} : flat (.str i) = true := by unfold flat; rfl
@[simp] theorem flat_non : flat .non = true := by unfold flat; rfl
@[simp] theorem flat_lst {x : List D} : flat (.lst x) = false := by unfold flat; rfl
end
/-! the body of a def -/
def endF (ios : List Nat) : Fl → Fo
  | .nx ρ => match getIo ρ ios with
    | some us => .ok (.v .F .non) us
    | none => .no
  | .rt t ρ => match unB t, getIo ρ ios with
    | some t, some us => .ok t us
    | _, _ => .no
  | .ex e ρ => match getIo ρ ios with
    | some us => .ex e us
    | none => .no
  | _ => .no
theorem defn_eq {n : Nat} {ios : List Nat} {body : Sm} {ts : List Tm} : defn n ios body ts = endF ios (body (ts.map some ++ List.replicate (n - ts.length) none)) := rfl
@[simp] theorem endF_ite {ios : List Nat} {c : Prop} [Decidable c] {a b : Fl} : endF ios (if c then a else b) = if c then endF ios a else endF ios b := by split <;> rfl
section
variable {t u : Tm} {ρ : Ss} {ts : List Tm} {e : Er} {c : Prop} [Decidable c]
@[simp] theorem bind_ite {a b : Ou} {k : Tm → Ss → Ou} : (if c then a else b).bind k = if c then a.bind k else b.bind k := by split <;> rfl
@[simp] theorem bindL_ite {a b : Ou} {k : Tm → Ss → OuL} : (if c then a else b).bindL k = if c then a.bindL k else b.bindL k := by split <;> rfl
@[simp] theorem lbind_ite {a b : OuL} {k : List Tm → Ss → Ou} : (if c then a else b).bind k = if c then a.bind k else b.bind k := by split <;> rfl
@[simp] theorem lbindL_ite {a b : OuL} {k : List Tm → Ss → OuL} : (if c then a else b).bindL k = if c then a.bindL k else b.bindL k := by split <;> rfl
@[simp] theorem toF_ite {a b : Ou} {k : Tm → Ss → Fl} : (if c then a else b).toF k = if c then a.toF k else b.toF k := by split <;> rfl
theorem var_eq {i : Nat} : eVar i ρ = match ρ[i]? with
  | some (some (.v .O d)) => .ok (.loc i) ρ
  | some (some (.v k d)) => .ok (.v k d) ρ
  | some (some t) => .ok (.loc i) ρ
  | _ => .no := rfl
@[simp] theorem sset_eq {i : Nat} {g : Ev} : sSet i g ρ = (g ρ).toF fun t ρ1 => if isLoc t = false ∧ i < ρ1.length then .nx (ρ1.set i (some t)) else .no := rfl
def nxO : Option Ss → Fl
  | some ρ => .nx ρ
  | none => .no
@[simp] theorem nxO_some : nxO (some ρ) = .nx ρ := rfl
@[simp] theorem sasg_eq {g : Ev} {tg : Tg} : sAsg tg g ρ = (g ρ).toF fun t ρ1 => nxO (tg t ρ1) := by
  unfold sAsg nxO
  rfl
@[simp] theorem tgN_eq {i : Nat} : tgN i t ρ = if isLoc t = false ∧ i < ρ.length then some (ρ.set i (some t)) else none := rfl
@[simp] theorem tgTup_F {k : Kd} {xs : List D} {gs : Tgs} : tgTup gs (.v k (.tup xs)) ρ = gs (xs.map (subK k)) ρ := rfl
@[simp] theorem tgTup_tp {gs : Tgs} : tgTup gs (.tp ts) ρ = gs ts ρ := rfl
@[simp] theorem tgsNil_eq : tgsNil [] ρ = some ρ := rfl
@[simp] theorem tgsCons_eq {g : Tg} {gs : Tgs} : tgsCons g gs (t :: ts) ρ = (g t ρ).bind fun ρ1 => gs ts ρ1 := by
  unfold tgsCons
  cases h : g t ρ <;> simp [h]
@[simp] theorem sub_F {d : D} : subK .F d = .v .F d := rfl
@[simp] theorem sub_B {d : D} : subK .B d = .v .B d := rfl
@[simp] theorem sub_O {d : D} : subK .O d = .v .F d := rfl
def frO (o : Option D) (ρ : Ss) : Ou := match o with
  | some d => .ok (.v .F d) ρ
  | none => .no
@[simp] theorem frO_some {d : D} : frO (some d) ρ = .ok (.v .F d) ρ := rfl
def eF1 (t : Tm) (ρ1 : Ss) : Ou := match t with
  | .loc i => match ρ1[i]? with
    | some (some t0) => match frz t0 with
      | some d => .ok (.v .F d) (ρ1.set i (some (.v .F d)))
      | none => .no
    | _ => .no
  | t => match frz t with
    | some d => .ok (.v .F d) ρ1
    | none => .no
@[simp] theorem ef_eq {g : Ev} : eF g ρ = (g ρ).bind eF1 := rfl
@[simp] theorem ef1_F {d : D} : eF1 (.v .F d) ρ = .ok (.v .F d) ρ := by simp [eF1, frz]
@[simp] theorem ef1_O {d : D} : eF1 (.v .O d) ρ = .ok (.v .F d) ρ := by simp [eF1, frz]
@[simp] theorem ef1_Bi {i : Int} : eF1 (.v .B (.int i)) ρ = .ok (.v .F (.int i)) ρ := by simp [eF1, frz]
@[simp] theorem ef1_Bs {i : Str} : eF1 (.v .B (.str i)) ρ = .ok (.v .F (.str i)) ρ := by simp [eF1, frz]
@[simp] theorem ef1_Bb {i : Bool} : eF1 (.v .B (.bl i)) ρ = .ok (.v .F (.bl i)) ρ := by simp [eF1, frz]
def eM1 (t : Tm) (ρ1 : Ss) : Ou := match t with
  | .loc i => match ρ1[i]? with
    | some (some t0) => .ok t0 (ρ1.set i none)
    | _ => .no
  | t => .ok t ρ1
@[simp] theorem em_eq {g : Ev} : eM g ρ = (g ρ).bind eM1 := rfl
@[simp] theorem em1_v {k : Kd} {d : D} : eM1 (.v k d) ρ = .ok (.v k d) ρ := rfl
@[simp] theorem frz_F {d : D} : frz (.v .F d) = some d := by unfold frz; rfl
@[simp] theorem frz_O {d : D} : frz (.v .O d) = some d := by unfold frz; rfl
@[simp] theorem frz_B {d : D} : frz (.v .B d) = if flat d = true then some d else none := by unfold frz; rfl
@[simp] theorem frzs_nil : frzs [] = some [] := by unfold frzs; rfl
@[simp] theorem frzs_cons : frzs (t :: ts) = (frz t).bind fun d => (frzs ts).map fun ds => d :: ds := by
  rw [frzs]
  cases frz t <;> cases frzs ts <;> rfl
@[simp] theorem unB_F {d : D} : unB (.v .F d) = some (.v .F d) := by unfold unB; rfl
@[simp] theorem unB_O {d : D} : unB (.v .O d) = some (.v .O d) := by unfold unB; rfl
@[simp] theorem unB_B {d : D} : unB (.v .B d) = if flat d = true then some (.v .F d) else none := by unfold unB; rfl
@[simp] theorem unB_ob {c : Nat} : unB (.ob c ts) = (unBs ts).map (.ob c) := by rw [unB]
@[simp] theorem unBs_nil : unBs [] = some [] := by unfold unBs; rfl
@[simp] theorem unBs_cons : unBs (t :: ts) = (unB t).bind fun d => (unBs ts).map fun ds => d :: ds := by
  rw [unBs]
  cases unB t <;> cases unBs ts <;> rfl
@[simp] theorem getIo_nil : getIo ρ [] = some [] := rfl
@[simp] theorem getIo_cons {i : Nat} {is : List Nat} : getIo ρ (i :: is) = match ρ[i]? with
  | some (some t) => match unB t, getIo (ρ.set i none) is with
    | some u, some us => some (u :: us)
    | _, _ => none
  | _ => none := rfl
theorem etup_eq {gs : Ss → OuL} : eTup gs ρ = (gs ρ).bind fun ts ρ1 => match frzs ts with
  | some ds => if ds.length ≤ sizeLine then .ok (.v .F (.tup ds)) ρ1 else .no
  | none => .no := rfl
theorem elst_eq {gs : Ss → OuL} : eLst gs ρ = (gs ρ).bind fun ts ρ1 => match frzs ts with
  | some ds => if ds.length ≤ sizeLine then .ok (.v .O (.lst ds)) ρ1 else .no
  | none => .no := rfl
@[simp] theorem endF_rt {ios : List Nat} : endF ios (.rt t ρ) = match unB t, getIo ρ ios with
    | some t, some us => .ok t us
    | _, _ => .no := rfl
@[simp] theorem endF_nx {ios : List Nat} : endF ios (.nx ρ) = match getIo ρ ios with
    | some us => .ok (.v .F .non) us
    | none => .no := rfl
end
end PV

namespace PV
open PySem L2
theorem setset {α : Type} {l : List α} {i : Nat} {a b : α} : (l.set i a).set i b = l.set i b := by simp
@[simp] theorem rngL_len {lo : Int} {n : Nat} : (rngL lo n).length = n := by simp [rngL]
theorem rngL_at {lo : Int} {n i : Nat} {t : Tm} (h : (rngL lo n)[i]? = some t) : i < n ∧ t = .v .F (.int (lo + i)) := by
  have hi : i < n := by
    have := (List.getElem?_eq_some_iff.mp h).1
    simpa using this
  unfold rngL at h
  rw [List.getElem?_map, List.getElem?_range hi] at h
  exact ⟨hi, (Option.some.inj h).symm⟩
/-- lists of ints -/
abbrev lI (ns : List Int) : D := .lst (ns.map .int)
@[simp] theorem intsD_lI (ns : List Int) : intsD (ns.map .int) = some ns := intsD_map ns
@[simp] theorem elk_ints (k : Kd) (ns : List Int) : elk k (ns.map .int) = some (ns.map .int) := by
  cases k <;> simp [elk]
/-! data of ints -/
@[simp] theorem toPys_ints : ∀ ns : List Int, toPys (ns.map .int) = some (ns.map .int)
  | [] => by simp [toPys]
  | n :: ns => by simp [toPys, toPy, toPys_ints ns]
@[simp] theorem canLay_ints : ∀ ns : List Int, PyData.canLayAll0 (ns.map .int) = true
  | [] => by simp [PyData.canLayAll0]
  | n :: ns => by simp [PyData.canLayAll0, PyData.canLay0, canLay_ints ns]
@[simp] theorem depth_ints : ∀ ns : List Int, PyData.depthAll (ns.map .int) = 0
  | [] => by simp [PyData.depthAll]
  | n :: ns => by simp [PyData.depthAll, PyData.depth, depth_ints ns]
@[simp] theorem eqv_ints : ∀ ns ms : List Int, PyData.eqvAll (ns.map .int) (ms.map .int) = decide (ns = ms)
  | [], [] => by simp [PyData.eqvAll]
  | [], m :: ms => by simp [PyData.eqvAll]
  | n :: ns, [] => by simp [PyData.eqvAll]
  | n :: ns, m :: ms => by
    simp only [List.map_cons, PyData.eqvAll, PyData.eqv, eqv_ints ns ms, List.cons.injEq, Bool.decide_and]
    rfl
@[simp] theorem noDict_ints : ∀ ns : List Int, PyData.hasDictAll (ns.map .int) = false
  | [] => by simp [PyData.hasDictAll]
  | n :: ns => by simp [PyData.hasDictAll, PyData.hasDict, noDict_ints ns]
abbrev Sh (n : Int) : Prop := n.natAbs < 1000000000000
theorem log_sh {n : Int} (h : Sh n) : n.natAbs.log2 < 40 := by
  by_cases h0 : n.natAbs = 0
  · rw [h0]; decide
  · rw [Nat.log2_lt h0]
    have : (1000000000000 : Nat) ≤ 2 ^ 40 := by decide
    omega
theorem show_ints : ∀ ns : List Int, (∀ n ∈ ns, Sh n) → PyData.showableAll (ns.map .int) = true
  | [], _ => by simp [PyData.showableAll]
  | n :: ns, h => by
    simp only [List.map_cons, PyData.showableAll, PyData.showable, show_ints ns fun m hm => h m (List.mem_cons_of_mem _ hm), Bool.and_true, decide_eq_true_eq]
    have := log_sh (h n List.mem_cons_self)
    omega
theorem leaf_int {n : Int} (h : Sh n) : PyData.leavesShort 13 (.int n) = true := by
  simp only [PyData.leavesShort, decide_eq_true_eq]
  exact PyData.shown_int_le (by have : (10 : Nat) ^ 12 = 1000000000000 := by decide
                                omega)
theorem leaf_ints : ∀ ns : List Int, (∀ n ∈ ns, Sh n) → PyData.leavesShortAll 13 (ns.map .int) = true
  | [], _ => by simp [PyData.leavesShortAll]
  | n :: ns, h => by
    simp only [List.map_cons, PyData.leavesShortAll, leaf_int (h n List.mem_cons_self), leaf_ints ns fun m hm => h m (List.mem_cons_of_mem _ hm), Bool.and_self]
theorem wt_int {n : Int} (h : Sh n) : PyData.weight (.int n) ≤ 40 := by
  simp only [PyData.weight]
  have := log_sh h
  split <;> omega
theorem wt_ints : ∀ ns : List Int, (∀ n ∈ ns, Sh n) → PyData.weightAll (ns.map .int) ≤ 41 * ns.length
  | [], _ => by simp [PyData.weightAll]
  | n :: ns, h => by
    simp only [List.map_cons, PyData.weightAll, List.length_cons]
    have h1 := wt_int (h n List.mem_cons_self)
    have h2 := wt_ints ns fun m hm => h m (List.mem_cons_of_mem _ hm)
    omega
theorem erase_map {α β : Type} (f : α → β) : ∀ (l : List α) (k : Nat), (l.map f).eraseIdx k = (l.eraseIdx k).map f
  | [], k => rfl
  | x :: l, 0 => rfl
  | x :: l, k + 1 => by simp [erase_map f l k]
end PV

namespace PV
open PySem PySem.Spec L2

/-! ### enumerate over a list or a tuple -/
section
open PyProof.Rows
variable {prog : Program} {w : World} {A : Around} {E : Value → Shared → Prop} {s : Shared}
/-- the tuple at a as it stands at each turn, each item in a new pair -/
def IteT (K : PySem.W.Frag) (a : Addr) : It :=
  ⟨fun i H => ∃ (xs : List V) (x : V), SqT K H a xs ∧ xs[i]? = some x, fun i H v H' => ∃ T x, v = .ref T ∧ H T = none ∧ H' = upd H T (.tup [.int (i : Nat), x]) ∧ ∀ xs, SqT K H a xs → xs[i]? = some x, fun i H => ∃ xs : List V, SqT K H a xs ∧ xs.length = i⟩
def iEnT (K : PySem.W.Frag) (ta : TA) : TI := fun σ H R => ta σ H fun vs H1 => ∃ a xs, vs = [.ref a] ∧ SqT K H1 a xs ∧ R (IteT K a) H1
end
end PV

namespace PV
open PySem PySem.Spec L2

/-! ### set(xs) of ints, sorted(set(xs)) -/
section
open PyProof.Rows
variable {P : Program} {w : World} {A : Around} {E : Value → Shared → Prop} {s : Shared}
/-- a new set's cell -/
abbrev seO (w : World) : Obj := { cls := .type "set", dict := none, data := .set #[] 0 (.fresh 0 0 (!w.params.followText "set-order")) }
theorem set_listI {l : Addr} {items : Array Value} (ns : List Int) {Q : Value → Shared → Prop} (hh : A.handled = none) (hl : s.heap.IsList l items) (hi : IntsAre items.toList ns) (hb : ns.length + 1 < scanBound)
    (h : ∀ (h' : Heap) (tk c : Nat), SetR w h' s.heap.objs.size (fun j => decide (j ∈ ns)) c → c ≤ ns.length → (∀ b o, s.heap.get? b = some o → h'.get? b = some o) → Q (.ref s.heap.objs.size) { s with heap := h', toks := tk }) :
    wpAny (model P w) A (call (.type "set") [.ref l]) Q E s := by
  have hsz : items.size = ns.length := by have q := IntsAre.length hi; rwa [Array.length_toList] at q
  obtain ⟨c, tl, hmro⟩ := F.called_set.mro
  have hmade := F.called_set.made
  have hsub := F.called_set.sub
  refine wpAny_call (codeAny_of_tree ?_)
  show wpAny _ _ (callAny (.type "set") _) _ _ _
  refine wpAny_pure ⟨Code.quiet_builtin _ (by decide +kernel), codeAny_builtin F.entry_type_call ?_⟩
  rw [Around.under_plain (weight_type_call_type "set" [.ref l] []) rfl]
  have h1 := F.called_set.notType
  have h2 := F.called_set.canCreate
  have hct := F.typeCall_set_1 (.ref l)
  repeat (any_goals (first | assumption | wp_step))
  refine codeAny_mono (code_set_led1 (.ref l) (E := E) (Q₁ := fun v s₁ => v = .ref s.heap.objs.size ∧ s₁ = { s with heap := s.heap.push (seO w) }) ⟨rfl, rfl⟩) fun r s₁ hr => ?_
  rcases r with e | fl
  · exact hr
  cases fl
  case ret v =>
    obtain ⟨rfl, rfl⟩ := hr
    have hS : (s.heap.push (seO w)).get? s.heap.objs.size = some (seO w) := Heap.get?_push_size _ rfl
    have hT : Shared.TypeIs { s with heap := s.heap.push (seO w) } (.ref s.heap.objs.size) "set" := ⟨_, hS, rfl⟩
    have hli := F.called_set.init.lookup
    have hbi := F.called_set.init.bind (.ref s.heap.objs.size)
    repeat (any_goals (first | assumption | wp_step))
    refine codeAny_mono (codeAny_call_builtin (R := wants (fun r s₂ => r = .none ∧ ∃ h' tk c, s₂ = { s with heap := h', toks := tk } ∧ SetR w h' s.heap.objs.size (fun j => decide (j ∈ ns)) c ∧ c ≤ ns.length ∧
      (∀ b o, s.heap.get? b = some o → h'.get? b = some o)) E) F.called_set.init.plain F.entry_set_init (check_set_init_1 hT ?_)) fun r2 s2 hr2 => ?_
    · obtain ⟨⟨ocls, odict, odata, oslots⟩, hol, hcl, nl, hdl⟩ := hl
      simp only at hcl hdl
      subst hcl hdl
      have hol' : (s.heap.push (seO w)).get? l = some { cls := .type "list", dict := odict, data := .seq items nl, slots := oslots } := Heap.get?_push_of_some _ hol
      have b1 := F.sub_list_set
      have b2 := F.sub_list_frozenset
      have b3 : (Value.type "list" == Value.type "dict") = false := by decide
      have hl1 : (s.heap.push (seO w)).IsList l items := ⟨_, hol', rfl, nl, rfl⟩
      unfold Builtin.«set.__init__» noKeywords Builtin.Frozenset.updateFrom
      generalize hPI : pyIter = PI
      wp_walk
      subst hPI
      refine wpAny_pyIter_list hl1 (wpAny_bind (wpAny_runValue ?_))
      have hlS : l < s.heap.objs.size := Heap.lt_size hol
      have es : (s.heap.push (seO w)).objs.size = s.heap.objs.size + 1 := Heap.size_push ..
      have d1 : l ≠ (s.heap.push (seO w)).objs.size := by rw [es]; exact Nat.ne_of_lt (Nat.lt_succ_of_lt hlS)
      have d2 : s.heap.objs.size ∉ [(s.heap.push (seO w)).objs.size, l] := by
        rw [es]
        intro q
        simp only [List.mem_cons, List.not_mem_nil, or_false] at q
        exact q.elim (fun z => Nat.ne_of_lt (Nat.lt_succ_self _) z) fun z => Nat.ne_of_gt hlS z
      have val : ∀ (i : Nat) (v : Value), items[i]? = some v → ∃ k t, ns[i]? = some k ∧ v = .int k t := fun i v hv => by
        have hlt : i < ns.length := by rw [← hsz]; exact (Array.getElem?_eq_some_iff.mp hv).1
        obtain ⟨t, e⟩ := IntsAre.int_at hi i v (by rw [Array.getElem?_toList]; exact hv)
        refine ⟨ns[i], t, List.getElem?_eq_getElem hlt, ?_⟩
        rw [e, List.getD_eq_getElem?_getD, List.getElem?_eq_getElem hlt] <;> rfl
      refine set_update_ints ((Walks.list (A := A.in1.in1.in1) (by simp [hh]) _ l d1 items).toS) s.heap.objs.size d2 ns hsz hb val (items.size - 0) 0 _ (by omega) (Nat.zero_le _)
        ⟨⟨_, Heap.get?_push_size _ rfl, rfl, rfl⟩, (hl1.push _)⟩ ⟨0, Nat.le_refl 0, setR_new_at (Heap.get?_push_of_some _ hS)⟩ ?_
      rintro ⟨h', g2, d', tk', os'⟩ c2 hm hc2 hS2
      cases hm.gens
      cases hm.drawn
      cases hm.os
      show wpAny _ _ _ _ _ _
      refine wpAny_pure ?_
      show wpAny _ _ (ret Value.none) _ _ _
      rw [hsz] at hc2
      refine wpAny_pure ⟨rfl, h', tk', c2, rfl, hS2, hc2, fun b o e => ?_⟩
      have hbl : b < s.heap.objs.size := Heap.lt_size e
      refine hm.heap b o (fun q => ?_) (Heap.get?_push_of_some _ (Heap.get?_push_of_some _ e))
      rw [es] at q
      simp only [List.mem_cons, List.not_mem_nil, or_false] at q
      exact q.elim (fun z => Nat.ne_of_lt hbl z) fun z => Nat.ne_of_lt (Nat.lt_succ_of_lt hbl) z
    · rcases r2 with e | fl2
      · exact hr2
      cases fl2
      case ret v =>
        obtain ⟨rfl, h', tk, c2, rfl, hS2, hc2, hk2⟩ := hr2
        repeat (any_goals (first | assumption | wp_step))
        exact h _ _ _ hS2 hc2 hk2
      all_goals exact hr2.elim
  all_goals exact hr.elim
end
section
variable {X : Cx}
/-- set(xs): a list or a tuple of ints -/
def rSetI (w : World) (K : PySem.W.Frag) : List V → Hp → VK → Prop := fun vs H Q => ∃ (a : Addr) (ns : List Int), vs = [V.ref a] ∧ (SqL K H a (ns.map V.int) ∨ SqT K H a (ns.map V.int)) ∧ ns.length + 1 < scanBound ∧
  ∀ (p : Addr) (c : Nat), c ≤ ns.length → H p = none → Q (.ref p) (upd H p (SetO w p (fun j => decide (j ∈ ns)) c))
theorem cr_setI (hc : X.calm = true) : CallR X (.type "set") (rSetI X.w X.K) := by
  intro pins s σ H vs us Q I r h
  obtain ⟨a, ns, rfl, hs, hb, q⟩ := h
  rw [Vals.ref1 r]
  have fin : ∀ (h' : Heap) (tk c : Nat), SetR X.w h' s.heap.objs.size (fun j => decide (j ∈ ns)) c → c ≤ ns.length → (∀ b o, s.heap.get? b = some o → h'.get? b = some o) → EP X pins σ Q (.ref s.heap.objs.size) { s with heap := h', toks := tk } := fun h' tk c R hc2 hk =>
    ⟨.ref _, upd H s.heap.objs.size (SetO X.w s.heap.objs.size (fun j => decide (j ∈ ns)) c), I.laid hk (Nat.le_refl _) (setO_new R), rfl, q _ _ hc2 (I.hok.fresh (Nat.le_refl _))⟩
  rcases hs with hs | hs
  · obtain ⟨its, rv, pl, hz⟩ := I.list hs
    exact set_listI ns (I.ok.hd hc) pl.isList (by simpa using rv.ints) hb fin
  · obtain ⟨its, rv, pl, hz⟩ := I.tuple hs
    exact call_set_tupI ns (I.ok.hd hc) pl (by simpa using rv.ints) hb fin
end
end PV

namespace PV
open PySem PySem.Spec L2
section
variable {G : Gx} {W : WX} {pr : Addr → Prop} {io : List (Nat × V)} {σ : L2.St} {s s1 : Sx} {ios : List Nat} {Q : VK} {X : Cx} {a b c : Expr} {pos p p2 q2 : Pos} {x : Str} {ga gb gc : Ev}
/-- the ascending members, each once -/
def usort (ns : List Int) : List Int := isort ns.eraseDups
theorem usort_mem {ns : List Int} {k : Int} : k ∈ usort ns ↔ k ∈ ns := by
  unfold usort
  rw [(isort_perm _).mem_iff, List.mem_eraseDups]
theorem nodup_eraseDups : ∀ (n : Nat) (l : List Int), l.length ≤ n → l.eraseDups.Nodup
  | _, [], _ => by simp
  | n + 1, x :: l, h => by
    rw [List.eraseDups_cons, List.nodup_cons]
    refine ⟨fun z => ?_, nodup_eraseDups n _ ?_⟩
    · rw [List.mem_eraseDups, List.mem_filter] at z
      simp at z
    · have := List.length_filter_le (fun b => !b == x) l
      simp only [List.length_cons] at h
      omega
theorem usort_lt (ns : List Int) : (usort ns).Pairwise (· < ·) := by
  refine lt_of_le_nodup _ (isort_up _) ?_
  exact (isort_perm _).nodup_iff.mpr (nodup_eraseDups _ ns (Nat.le_refl _))
theorem usort_of {ns ms : List Int} (h : ms.Pairwise (· < ·)) (m : ∀ k, k ∈ ms ↔ k ∈ ns) : ms = usort ns := by
  have n1 : ms.Nodup := h.imp fun h => Int.ne_of_lt h
  have n2 : (usort ns).Nodup := (usort_lt ns).imp fun h => Int.ne_of_lt h
  refine isort_uniq ((List.perm_ext_iff_of_nodup n1 n2).mpr fun k => by rw [m, usort_mem]) (h.imp fun h => Int.le_of_lt h) ((usort_lt ns).imp fun h => Int.le_of_lt h)
/-- sorted(set(xs)) -/
def ssD (xs : List D) : Option Tm := match intsD xs with
  | some ns => if ns.length < 64 then some (.v .O (.lst ((usort ns).map .int))) else none
  | none => none
def opSS (t : Tm) : Option Tm := match toD t with
  | .lst xs => ssD xs
  | .tup xs => ssD xs
  | .kt => some (.v .O (.lst []))
  | _ => none
def eSortSet : Ev → Ev := eOp1 opSS
end
end PV

namespace PV
open PySem PySem.Spec L2
/-! ### comprehensions with two fors: the second one over range(n) -/
section
variable {G : Gx} {W : WX} {pr : Addr → Prop} {io : List (Nat × V)} {σ : L2.St} {s s1 : Sx} {ios : List Nat} {X : Cx} {a b c e tg : Expr} {pos p : Pos} {ga gb gc : Ev}
/-- the list that is made at L holds acc -/
structure Acc (G : Gx) (L : Addr) (s : Sx) (acc : List D) (accv : List V) : Prop where
  at' : s.H L = some (.lst accv)
  rep : Reps G s.H s.fz acc accv
  nf : ¬ s.fz L
  no : L ∉ s.os
theorem Acc.on {L : Addr} {acc : List D} {accv : List V} {s5 : Sx} (h : Acc G L s acc accv) (r : SR G pr io σ s) (x : Ext s s5) : Acc G L s5 acc accv where
  at' := x.keep _ _ h.at' h.no
  rep := Reps.keep x.fz (fun a o p e => x.keep a o e fun z => (r.sep a z).1 p) x.tk _ _ h.rep
  nf := fun z => by
    rcases x.fzo L z with k | k | k
    · exact h.nf k
    · exact h.no k
    · rw [h.at'] at k; cases k
  no := fun z => by
    rcases x.oso L z with k | k
    · exact h.no k
    · rw [h.at'] at k; cases k
theorem Acc.less {L : Addr} {acc : List D} {accv : List V} {os' : List Addr} {ρ : Ss} (h : Acc G L s acc accv) (ha : ∀ a ∈ os', a ∈ s.os) : Acc G L { s with ρ := ρ, os := os' } acc accv := ⟨h.at', h.rep, h.nf, fun z => h.no (ha _ z)⟩
/-- for t in ..: for u in range(n): the parts -/
def compR (tgt : Tg) (gn : Ev) (tgt1 : Tg) (elt : Ev) (vs vs1 : List Nat) : List Tm → Ss → Option (List D × Ss)
  | [], ρ => some ([], wipeS ρ vs)
  | t :: ts, ρ => match tgt t (wipeS ρ vs) with
    | some ρ1 => match gn ρ1 with
      | .ok n ρ2 => match asI n with
        | some j => if -(2 ^ 62) ≤ j ∧ j < 2 ^ 62 then match compL tgt1 eTrue elt vs1 (rngL 0 j.toNat) ρ2 with
            | some (ds1, ρ3) => match compR tgt gn tgt1 elt vs vs1 ts ρ3 with
              | some (ds, ρ4) => some (ds1 ++ ds, ρ4)
              | none => none
            | none => none
          else none
        | none => none
      | _ => none
    | none => none
def eCompR (it : Iv) (vs : List Nat) (tgt : Tg) (gn : Ev) (vs1 : List Nat) (tgt1 : Tg) (elt : Ev) : Ev := fun ρ => match it ρ with
  | .ok ts ρ1 => if vs.all (hideOk ρ1) = true then match compR tgt gn tgt1 elt vs vs1 ts ρ1 with
    | some (ds, ρ2) => if ds.length ≤ sizeLine then .ok (.v .O (.lst ds)) (restS ρ1 ρ2 vs) else .no
    | none => .no
    else .no
  | .ex e ρ1 => .ex e ρ1
  | .no => .no
variable {elt iter tg1 bn : Expr} {scope : Scope} {own : List (Str × Nat)} {spos py p1 p2 : Pos} {it : Iv} {tgt tgt1 : Tg} {gn gel : Ev} {tv tv1 vs1 : List Nat}
end
end PV

namespace PV
open PySem PySem.Spec L2
/-! ### enumerate, zip -/
section
variable {G : Gx} {W : WX} {pr : Addr → Prop} {io : List (Nat × V)} {σ : L2.St} {s s1 s2 : Sx} {ios : List Nat} {X : Cx} {a b c e tg : Expr} {pos p tpos : Pos} {kk : Nat} {elts : List Expr} {ga gb gc : Ev}
/-- pairs -/
abbrev pairD (x y : D) : D := .tup [x, y]
/-- the items with their numbers -/
def enumD (n : Nat) : List D → List D
  | [] => []
  | x :: xs => pairD (.int n) x :: enumD (n + 1) xs
def itemsEn : Tm → Option (List Tm)
  | .v k (.tup xs) => some ((enumD 0 xs).map (subK k))
  | _ => none
/-- for .. in enumerate(a tuple) -/
def itEnT (g : Ev) : Iv := fun ρ => (g ρ).bindL fun t ρ1 => match itemsEn t with
  | some ts => .ok ts ρ1
  | none => .no
/-! zip -/
def zipD (xs ys : List D) : List D := List.zipWith pairD xs ys
def kd2 (k l : Kd) : Kd := match k, l with
  | .B, _ => .B
  | _, .B => .B
  | _, _ => .F
def itemsZip : Tm → Tm → Option (List Tm)
  | .v k (.tup xs), .v l (.tup ys) => some ((zipD xs ys).map (subK (kd2 k l)))
  | .v k (.lst xs), .v l (.lst ys) => some ((zipD xs ys).map (subK (kd2 k l)))
  | _, _ => none
def itZip (ga gb : Ev) : Iv := fun ρ => (ga ρ).bindL fun t ρ1 => (gb ρ1).bindL fun u ρ2 => match itemsZip t u with
  | some ts => .ok ts ρ2
  | none => .no
end
end PV

namespace PV
open PySem PySem.Spec L2
/-! ### xs += t, t a tuple -/
section
open PyProof.Rows
variable {M : Model} {prog : Program} {w : World} {A : Around} {E : Value → Shared → Prop} {s : Shared}
end
section
open PyProof.Rows
variable {X : Cx}
def rExtT (K : PySem.W.Frag) : R2 := fun x y H Q => ∃ l b xs zs, x = .ref l ∧ y = .ref b ∧ H l = some (.lst xs) ∧ SqT K H b zs ∧ xs.length + zs.length ≤ sizeLine ∧ Q (.ref l) (upd H l (.lst (xs ++ zs)))
end
section
variable {G : Gx} {W : WX} {pr : Addr → Prop} {io : List (Nat × V)} {σ : L2.St} {s s1 : Sx} {ios : List Nat} {Q : VK} {X : Cx} {a b c : Expr} {pos p : Pos} {x : Str} {ga gb gc : Ev}
/-- xs += e, e a list or a tuple -/
def opExt (xs : List D) (t : Tm) : Option (List D) := match t with
  | .v k (.tup ys) => (elk k ys).map (xs ++ ·)
  | .v k (.lst ys) => (elk k ys).map (xs ++ ·)
  | _ => none
def sExt (i : Nat) (g : Ev) : Sm := fun ρ => match ρ[i]? with
  | some (some (.v .O (.lst _))) => (g ρ).toF fun t ρ1 => match t with
    | .loc _ => .no
    | t => match ρ1[i]? with
      | some (some (.v .O (.lst xs))) => match opExt xs t with
        | some zs => if zs.length ≤ sizeLine then .nx (ρ1.set i (some (.v .O (.lst zs)))) else .no
        | none => .no
      | _ => .no
  | _ => .no
def ipExt (K : PySem.W.Frag) : TIp := fun x y H Q => rExt2 x y H Q ∨ rExtT K x y H Q
end
end PV

namespace PV
open PySem PySem.Spec L2
section
variable {X : Cx}
def rGetL : V → V → Hp → VK → Prop := fun o i H Q => ∃ (p : Addr) (xs : List V) (k : Int) (z : V), o = .ref p ∧ i = .int k ∧ H p = some (.lst xs) ∧ atI xs k = some z ∧ Q z H
theorem get_list : PGet X rGetL := by
  intro pins s σ H o i ov iv Q I ro ri h
  obtain ⟨p, xs, k, z, rfl, rfl, hp, he, q⟩ := h
  cases ro
  obtain ⟨t, rfl⟩ := ri
  obtain ⟨its, r, pl, hz⟩ := I.list (SqL.of hp)
  obtain ⟨j, h1, h2, h3, h4, h5⟩ := atI_get he
  obtain ⟨w, ew, rw'⟩ := r.get h2
  have hl := r.length
  have hn := line63
  have fin : EP X pins σ Q w s := ⟨z, H, I, rw', q⟩
  by_cases h0 : 0 ≤ k
  · have hj : k.toNat = j := by
      rw [seqIndex_of h0 h5] at h1
      exact Option.some.inj h1
    exact wpAny_getItem_list pl.isList h0 (by omega) (by rw [hj]; simpa using ew) fin
  · have hj : (k + (its.toArray.size : Int)).toNat = j := by
      rw [seqIndex_neg (by omega) h4] at h1
      rw [List.size_toArray, ← hl]
      exact Option.some.inj h1
    exact wpAny_getItem_list_neg pl.isList (by omega) (by rw [List.size_toArray] <;> omega) (by omega) (by rw [hj]; simpa using ew) fin
end
section
variable {G : Gx} {W : WX} {pr : Addr → Prop} {io : List (Nat × V)} {σ : L2.St} {s s1 : Sx} {ios : List Nat} {Q : VK} {X : Cx} {a b c ie : Expr} {pos p pos2 : Pos} {x : Str} {ga gb gc gi : Ev}
/-- xs[e] += e2, ints -/
def sAugSub (i : Nat) (gi : Ev) (f : Int → Int → Int) (g : Ev) : Sm := fun ρ => if isLs ρ i = true then (gi ρ).toF fun u ρ1 => match asI u with
  | some k => match ρ1[i]? with
    | some (some (.v .O (.lst xs))) => match L2.atI xs k with
      | some (.int m) => (g ρ1).toF fun w ρ2 => match asI w with
        | some n => match ρ2[i]? with
          | some (some (.v .O (.lst ys))) => match ixN ys.length k with
            | some j => .nx (ρ2.set i (some (.v .O (.lst (ys.set j (.int (f m n)))))))
            | none => .no
          | _ => .no
        | none => .no
      | _ => .no
    | _ => .no
  | none => .no
  else .no
theorem s_augSub {i : Nat} {op : Operator} {f : Int → Int → Int} (ho : PIp X op (ipI f)) (hx : X.N[i]? = some x) (hv : Vis X.env.scope x) (hdn : (x == ("__debug__" : Str)) = false) (hcn : (x == ("__classdict__" : Str)) = false) (hi : PEv X G W ios ie gi) (ha : PEv X G W ios a ga)
    (hau : ∀ ov iv new, augStore ie ov iv new = (do holding [new, ov, iv] (setItem ov iv new); release [new, ov, iv] []; pure .next) := by intros; rfl) : PSv X G W ios (.AugAssign (.Subscript (.Name x p) ie pos2) op a pos) (sAugSub i gi f ga) :=
  ps_imp (ps_augS (pe_var hx hv hdn hcn) hi get_list ha ho set_list hau) fun De σ H q => by
    obtain ⟨pr, io, s, rfl, hi, r, q⟩ := of_tSv q
    unfold sAugSub at q
    by_cases hl : isLs s.ρ i = true
    · rw [if_pos hl] at q
      obtain ⟨l, xv0, hv, hH⟩ := lm_cell r hl
      refine ⟨.ref l, hv, tEv_of hi r (FlP.toF q fun u w s1 ot r1 x1 p1 f1 q1 => ?_)⟩
      cases ek : asI u with
      | none => rw [ek] at q1; exact q1.elim
      | some k =>
        rw [ek] at q1
        have ew := asI_of p1 ek
        subst ew
        dsimp only at q1
        split at q1
        · rename_i xs e1
          split at q1
          · rename_i m em
            obtain ⟨o0, ht, _⟩ := r1.at e1 hv
            simp only [TmR, RepO] at ht
            obtain ⟨l', xv, e7, rfl, hl1, hxs⟩ := ht
            cases e7
            obtain ⟨z, hz, hzr⟩ := hxs.atI em
            simp only [Rep] at hzr
            subst hzr
            refine ⟨l, xv, k, .int m, rfl, rfl, hl1, hz, tEv_of hi r1 (OuP.later (FlP.toF q1 fun w v2 s2 ot2 r2 x2 p2 f2 q2 => ?_) x1)⟩
            cases en : asI w with
            | none => rw [en] at q2; exact q2.elim
            | some n =>
              rw [en] at q2
              have ew := asI_of p2 en
              subst ew
              dsimp only at q2
              refine ⟨m, n, rfl, rfl, ?_⟩
              split at q2
              · rename_i ys e3
                split at q2
                · rename_i j ej
                  obtain ⟨v', o0, hv', ht, nd0, sub0, mu⟩ := r2.mut (i := i) e3
                  rw [hv] at hv'
                  cases hv'
                  simp only [TmR, RepO] at ht
                  obtain ⟨a', yv, e7, rfl, hl2, hys⟩ := ht
                  cases e7
                  have own := r2.own l (sub0 l (by simp))
                  have hsep := r2.sep l (sub0 l (by simp))
                  refine ⟨l, yv, k, j, rfl, rfl, hl2, by rw [← hys.len]; exact ej, ?_⟩
                  have k2 : Reps G (upd s2.H l (.lst (yv.set j (.int (f m n))))) s2.fz (ys.set j (.int (f m n))) (yv.set j (.int (f m n))) := (Reps.setI (by simp only [Rep]) j hys).updO own hsep.1 _
                  obtain ⟨os', r4, hos'⟩ := mu [] l (.lst (yv.set j (.int (f m n)))) (.v .O (.lst (ys.set j (.int (f m n))))) [l] (by simp) (fun b hb => by cases hb) (by simp) (fun b hb => .inl hb) (by simp only [TmR, RepO]; exact ⟨l, _, rfl, rfl, upd_same, k2⟩)
                  exact q2 σ _ rfl r4 (x2.mut own (sub0 l (by simp)) hos' Frs.nil _ _)
                · exact q2.elim
              · exact q2.elim
          · exact q1.elim
        · exact q1.elim
    · rw [if_neg hl] at q; exact q.elim
/-! x in xs: ints -/
def inD (neg : Bool) (x y : D) : Option D := match x, y with
  | .int i, .lst ys => (intsD ys).map fun ns => .bl (if neg = true then !decide (i ∈ ns) else decide (i ∈ ns))
  | .int i, .tup ys => (intsD ys).map fun ns => .bl (if neg = true then !decide (i ∈ ns) else decide (i ∈ ns))
  | _, _ => none
theorem inV_ints (i : Int) : ∀ ns : List Int, inV (.int i) (ns.map V.int) = decide (i ∈ ns)
  | [] => rfl
  | n :: ns => by
    have ih := inV_ints i ns
    unfold inV at ih ⊢
    rw [List.map_cons, List.any_cons, ih]
    show (n == i || decide (i ∈ ns)) = decide (i ∈ n :: ns)
    by_cases h : n = i
    · subst h; simp
    · have : ¬ i = n := fun z => h z.symm
      simp [h, this]
theorem flatV_ints (ns : List Int) : (ns.map V.int).all flatV = true := by
  rw [List.all_eq_true]
  intro v hv
  obtain ⟨n, _, rfl⟩ := List.mem_map.mp hv
  rfl
theorem rdIn {K : PySem.W.Frag} (neg : Bool) : Rd2 G (inD neg) (rIn K neg) := by
  intro H x y dx dy d Q hx hy e q
  cases dx <;> cases dy <;> simp only [inD, reduceCtorEq, Option.map_eq_some_iff] at e
  all_goals
    obtain ⟨ns, e, rfl⟩ := e
    simp only [Rep] at hx hy
    subst hx
    obtain ⟨a, vs, rfl, hy⟩ := hy
    rw [intsD_eq e] at hy
  · obtain ⟨h1, h2⟩ := hy
    rw [reps_ints h2] at h1
    exact ⟨a, _, rfl, .inr (.of h1), rfl, flatV_ints ns, by rw [inV_ints]; exact q _ fun P => by simp only [Rep]⟩
  · obtain ⟨_, h1, h2⟩ := hy
    rw [reps_ints h2] at h1
    exact ⟨a, _, rfl, .inl (.of h1), rfl, flatV_ints ns, by rw [inV_ints]; exact q _ fun P => by simp only [Rep]⟩
def eIn : Ev → Ev → Ev := eOp2 (rd2 (inD false))
end
end PV

namespace PV
open PySem PySem.Spec L2
/-! ### sum of a list or a tuple of ints -/
section
variable {prog : Program} {w : World} {A : Around} {E : Value → Shared → Prop} {s : Shared} {l : Addr} {its : List Value} {ns : List Int} {Q : Value → Shared → Prop}
theorem sumT_raw (hh : A.handled = none) (hl : s.heap.IsTuple l its.toArray) (hi : PyProof.Rows.IntsAre its ns)
    (h : ∀ h' tk t', (∀ b o, s.heap.get? b = some o → h'.get? b = some o) → Q (.int ns.sum t') { s with heap := h', toks := tk }) : wpAny (model prog w) A (call (.builtin "sum") [.ref l]) Q E s := by
  obtain ⟨xs, e⟩ := hi.allInts.items
  have hn : numsOf (intItems xs).toList = ns := by rw [← e]; exact hi.numsOf
  rw [nums_intItems] at hn
  rw [e] at hl
  have hlt : l < s.heap.objs.size := by obtain ⟨o, q, _⟩ := id hl; exact Heap.lt_size q
  refine call_sum_walkG (wpAny_pyIter_tuple hl ?_)
  refine ⟨_, _, _, _, _, _, numAt xs, rfl, Walks.tuple (A := A.in1) hh _ l (Nat.ne_of_lt hlt) (intItems xs), ⟨⟨_, Heap.get?_push_size _ rfl, rfl, rfl⟩, hl.push _⟩, fun b hb => ?_, (fun _ _ => intItems_at), fun h' tk t' hk => ?_⟩
  · show b < (s.heap.push _).objs.size
    rw [Heap.size_push]
    simp only [List.mem_cons, List.not_mem_nil, or_false] at hb
    rcases hb with z | z
    · rw [z]; exact Nat.lt_succ_self _
    · rw [z]; exact Nat.lt_succ_of_lt hlt
  · have := h h' tk t' fun b o q => hk b o (by rw [List.mem_singleton]; exact Nat.ne_of_lt (Heap.lt_size q)) (Heap.get?_push_of_some _ q)
    rw [preSum_eq, List.take_of_length_le (by simp [intItems]), hn]
    exact this
end
section
variable {G : Gx} {W : WX} {ios : List Nat} {X : Cx} {a : Expr} {pos p : Pos} {ga : Ev}
def rSumA (K : PySem.W.Frag) : List V → Hp → VK → Prop := fun vs H Q => ∃ (a : Addr) (ns : List Int), vs = [V.ref a] ∧ (SqL K H a (ns.map V.int) ∨ SqT K H a (ns.map V.int)) ∧ Q (.int ns.sum) H
theorem cr_sumA (hc : X.calm = true) : CallR X (.builtin "sum") (rSumA X.K) := by
  intro pins s σ H vs us Q I r h
  obtain ⟨a, ns, rfl, hs | hs, q⟩ := h
  · exact cr_sum hc pins s σ H _ us Q I r ⟨a, ns, rfl, hs, q⟩
  · obtain ⟨its, rv, hl, _⟩ := I.tuple hs
    rw [Vals.ref1 r]
    exact sumT_raw (I.ok.hd hc) hl rv.ints fun h' tk t' hk => ⟨.int _, H, I.kept hk, ⟨_, rfl⟩, q⟩
def sumD : D → Option D
  | .lst xs => (intsD xs).map fun ns => .int ns.sum
  | .tup xs => (intsD xs).map fun ns => .int ns.sum
  | _ => none
def eSumA : Ev → Ev := eOp1 (rd1 sumD)
theorem v_sumA (hc : X.calm = true) (hm : X.mg "sum" = none) (ha : PEv X G W ios a ga) (hg : Gl X "sum" := by rfl) (hs : starEach [a] X.env = (false, eval a X.env) :: starEach [] X.env := by rfl) : PEv X G W ios (.Call (.Name "sum" p) [a] [] pos) (eSumA ga) :=
  v_b1 (cr_sumA hc) (Rd1.op (by
    intro H x dx d Q hx e q
    cases dx <;> simp only [sumD, reduceCtorEq, Option.map_eq_some_iff] at e
    all_goals
      obtain ⟨ns, e, rfl⟩ := e
      simp only [Rep] at hx
      obtain ⟨a, vs, rfl, hx⟩ := hx
      rw [intsD_eq e] at hx
    · obtain ⟨h1, h2⟩ := hx
      rw [reps_ints h2] at h1
      exact ⟨a, ns, rfl, .inr (.of h1), q _ fun P => by simp only [Rep]⟩
    · obtain ⟨_, h1, h2⟩ := hx
      rw [reps_ints h2] at h1
      exact ⟨a, ns, rfl, .inl (.of h1), q _ fun P => by simp only [Rep]⟩)) hm ha hg (hs := hs)
end
end PV

namespace PV
open PySem PySem.Spec L2
/-! xs.remove(k), x not in xs, sorted(xs, reverse=True), methods with keywords -/
section
variable {G : Gx} {W : WX} {pr : Addr → Prop} {io : List (Nat × V)} {σ : L2.St} {s s1 : Sx} {ios : List Nat} {Q : VK} {X : Cx} {a b c e o : Expr} {es : List Expr} {pos p pos2 apos : Pos} {x m : Str} {ga gb gc gi g0 : Ev} {gs gk : Ss → OuL}
def opRem : List D → List D → Option (D × List D) := fun xs ds => match ds with
  | [.int k] => (intsD xs).bind fun ns => if k ∈ ns then some (.non, (ns.erase k).map .int) else none
  | _ => none
theorem lm_rem : LmOk G opRem rRemI := fun H P l xs ds xv dv x xs' Q hl hx hd e hz q => by
  unfold opRem at e
  split at e
  · rename_i k
    simp only [Option.bind_eq_some_iff] at e
    obtain ⟨ns, e1, e⟩ := e
    split at e
    · rename_i hk
      cases e
      obtain ⟨w, rfl, hw⟩ := hd.one
      simp only [Rep] at hw
      subst hw
      obtain ⟨j, j1, j2, j3, j4⟩ := L2.first_at hk
      rw [intsD_eq e1] at hx
      rw [reps_ints hx] at hl
      refine ⟨l, ns, k, j, rfl, rfl, hl, j2, fun m hm => j3 m hm, ?_⟩
      rw [j4]
      exact q .non _ fun H' P' k1 k2 => ⟨by simp only [Rep], reps_of_ints _⟩
    · cases e
  · cases e
def eNotIn : Ev → Ev → Ev := eOp2 (rd2 (inD true))
/-- the falling list -/
def opSortR (t : Tm) : Option Tm := match toD t with
  | .lst xs => (intsD xs).map fun ns => .v .O (.lst ((isort ns).reverse.map .int))
  | _ => none
def eSortR : Ev → Ev := eOp1 opSortR
theorem isort_ofR {ns ms : List Int} (p : ms.Perm ns) (h : ms.Pairwise (· ≥ ·)) : ms = (isort ns).reverse := by
  have h1 : ms.reverse = isort ns := isort_of ((List.reverse_perm ms).trans p) (List.pairwise_reverse.mpr h)
  rw [← h1, List.reverse_reverse]
/-- o.m(e, .., k = e, ..): dfl what the defaults fill up -/
def eMethK (c : Nat) (fn : Fn) (ms : List Md) (g0 : Ev) (gs gk : Ss → OuL) (dfl : List D) : Ev := fun ρ => (g0 ρ).bind fun t0 ρ1 => if isOb c (derT ρ1 t0) = true then (gs ρ1).bind fun ts ρ2 => (gk ρ2).bind fun us ρ3 => callF fn ms (t0 :: (ts ++ us ++ dfl.map (Tm.v .F))) ρ3 else .no
section
variable {k n : Nat} {f C : Addr} {fd : FuncData} {ps : List Str} {sp : Sp} {E : St → XK} {ta : TE} {t tk : TA} {ks : List Str} {kws : List Keyword} {g : List Value → List Value → List Value} {gV : List V → List V → List V}
def tMethK (C : Addr) (m : Str) (n l : Nat) (sp : Sp) (gV : List V → List V → List V) (E : St → XK) (ta : TE) (t tk : TA) : TE := fun σ H Q => ta σ H fun x H1 => ∃ a dx fs, x = .ref a ∧ H1 a = some (.ins C dx fs) ∧ fs.lookup m = none ∧ t σ H1 fun vs H2 => tk σ H2 fun zs H3 => vs.length = n ∧ zs.length = l ∧ sp (gV (x :: vs) zs) H3 Q (E σ)
end
section
variable {c k n j : Nat} {fa : Addr} {fd : FuncData} {ps ks : List Str} {kws : List Keyword} {fn : Fn} {ms : List Md} {g : List Value → List Value → List Value} {gV : List V → List V → List V} {dfl : List D} {dv : List V}
end
end
end PV

namespace PV
open PySem PySem.Spec L2 PyProof.Rows
/-! list(zip(a, b)) -/
section
variable {prog : Program} {w : World} {A : Around} {E : Value → Shared → Prop} {s : Shared} {z TI TO T i1 i2 : Addr} {f : Bool} {oT : Obj} {fp1 fp2 : List Addr} {n1 n2 i : Nat} {P1 P2 : Nat → Value → Prop} {St1 St2 : Nat → Heap → Prop} {a1 a2 : Value}
/-- a zip at turn i, its tuple out or not -/
def ZSt (z TI TO i1 i2 S : Addr) (St1 St2 : Nat → Heap → Prop) (i : Nat) (h : Heap) : Prop :=
  ((IsZip h z TI TO .none ∧ ∃ a1 a2, IsTupOf2 h TO a1 a2) ∨ ∃ T f oT, PySem.IsZipHeld h z TI TO T f ∧ h.get? T = some oT ∧ T ≠ z ∧ T ≠ i1 ∧ T ≠ i2 ∧ T ≠ S) ∧ IsTupOf2 h TI (.ref i1) (.ref i2) ∧ St1 i h ∧ St2 i h
theorem ZSt.keep {S : Addr} {h h' : Heap} (D1 : Draws prog w A i1 fp1 n1 P1 St1) (D2 : Draws prog w A i2 fp2 n2 P2 St2) (hS : S ∉ z :: TI :: TO :: (fp1 ++ fp2)) (st : ZSt z TI TO i1 i2 S St1 St2 i h) (hk : ∀ b o, b ≠ S → h.get? b = some o → h'.get? b = some o) : ZSt z TI TO i1 i2 S St1 St2 i h' := by
  simp only [List.mem_cons, List.mem_append, not_or] at hS
  obtain ⟨n1', n2', n3', n4', n5'⟩ := hS
  obtain ⟨h0, h1, h2, h3⟩ := st
  refine ⟨?_, hk _ _ (Ne.symm n2') h1, D1.frame _ _ _ h2 fun b hb o e => hk b o (fun q => n4' (q ▸ hb)) e, D2.frame _ _ _ h3 fun b hb o e => hk b o (fun q => n5' (q ▸ hb)) e⟩
  rcases h0 with ⟨a, x, y, b⟩ | ⟨T, f, oT, a, b, c⟩
  · exact .inl ⟨hk _ _ (Ne.symm n1') a, x, y, hk _ _ (Ne.symm n3') b⟩
  · exact .inr ⟨T, f, oT, hk _ _ (Ne.symm n1') a, hk _ _ c.2.2.2 b, c⟩
/-- the pairs made so far -/
structure ZG (P1 P2 : Nat → Value → Prop) (lo : Addr) (h : Heap) (as : List Addr) : Prop where
  rise : as.Pairwise (· < ·)
  above : ∀ a ∈ as, lo < a
  pairs : ∀ (j : Nat) (a : Addr), as[j]? = some a → ∃ x y, P1 j x ∧ P2 j y ∧ IsTupOf2 h a x y
end
section
variable {prog : Program} {w : World} {A : Around} {E : Value → Shared → Prop} {s : Shared} {R : Result → Shared → Prop} {z TI TO T i1 i2 S : Addr} {fp1 fp2 : List Addr} {n1 n2 : Nat} {P1 P2 : Nat → Value → Prop} {St1 St2 : Nat → Heap → Prop}
end
/-- the pairs tracked at their addresses -/
def putP : Hp → List Addr → List (V × V) → Hp
  | H, a :: as, p :: ps => putP (upd H a (.tup [p.1, p.2])) as ps
  | H, _, _ => H
section
variable {X : Cx}
/-- a list or a tuple as the argument of zip -/
structure ZArg (X : Cx) (s : Shared) (v : Value) (us : List Value) : Prop where
  ex : ∃ (l : Addr) (o : Obj) (Hh : Heap → Prop) (St : Addr → Nat → Heap → Prop), v = .ref l ∧ l < s.heap.objs.size ∧ Begins v o Hh ∧ Hh s.heap ∧ (∀ (A : Around) (it : Addr), A.handled = none → l ≠ it → Draws X.prog X.w A it [it, l] us.length (fun i v => us[i]? = some v) (St it)) ∧ ∀ h it, Hh h → h.get? it = some o → St it 0 h
def rListZip (K : PySem.W.Frag) : List V → Hp → VK → Prop := fun vs H Q => ∃ (a b : Addr) (xs ys : List V), vs = [.ref a, .ref b] ∧ (SqL K H a xs ∨ SqT K H a xs) ∧ (SqL K H b ys ∨ SqT K H b ys) ∧
  ∀ (H' : Hp) (p : Addr) (ts : List Addr), (∀ b o, H b = some o → H' b = some o) → H p = none → (∀ t ∈ ts, H t = none) → p ∉ ts → H' p = some (.lst (ts.map V.ref)) → Paired (fun (t : Addr) (q : V × V) => H' t = some (.tup [q.1, q.2])) ts (xs.zip ys) → Q (.ref p) H'
end
end PV

namespace PV
open PySem PySem.Spec L2
/-! list(zip), join, str, isinstance, all, sorted pairs -/
section
variable {G : Gx} {W : WX} {pr : Addr → Prop} {io : List (Nat × V)} {σ : L2.St} {s s1 : Sx} {ios : List Nat} {Q : VK} {X : Cx} {a b c e o : Expr} {es : List Expr} {pos p pos2 p2 apos : Pos} {x m : Str} {ga gb gc gi g0 : Ev} {gs gk : Ss → OuL}
/-- the heap grows -/
def Grow (H H' : Hp) : Prop := ∀ b o, H b = some o → H' b = some o
theorem Grow.tk {H H' : Hp} (k : Grow H H') : Tk H H' := ⟨fun a vs h => k _ _ h, fun a o u h => k _ _ h⟩
/-! ### list(zip(a, b)) -/
def sqF : Tm → Option (List D)
  | .v k (.lst xs) => elk k xs
  | .v k (.tup xs) => elk k xs
  | _ => none
def pairT (p : D × D) : D := .tup [p.1, p.2]
def opLZip (t u : Tm) : Option Tm := match sqF t, sqF u with
  | some xs, some ys => some (.v .O (.lst ((xs.zip ys).map pairT)))
  | _, _ => none
def eLZip : Ev → Ev → Ev := eOp2 opLZip
/-! ### sep.join(xs), str(i) -/
def strsD : List D → Option (List Str)
  | [] => some []
  | .str i :: ds => (strsD ds).map (i :: ·)
  | _ => none
theorem strsD_map : ∀ ns : List Str, strsD (ns.map .str) = some ns
  | [] => rfl
  | n :: ns => by simp [strsD, strsD_map ns]
theorem reps_strs {H : Hp} {P : Addr → Prop} : ∀ {ns : List Str} {vs : List V}, Reps G H P (ns.map .str) vs → vs = ns.map V.str
  | [], vs, h => by simpa [Reps] using h
  | n :: ns, vs, h => by
    simp only [List.map_cons, Reps, Rep] at h
    obtain ⟨v, r, rfl, rfl, h⟩ := h
    rw [reps_strs h]
    rfl
def asS : Tm → Option Str
  | .v _ (.str z) => some z
  | _ => none
def joinO (a : Str) (t : Tm) : Option Tm := match toD t with
  | .lst xs => (strsD xs).bind fun ys => if (ys.map (·.length)).sum + ys.length * a.length ≤ 16777216 then some (.v .F (.str (Txt.join a ys))) else none
  | .tup xs => (strsD xs).bind fun ys => if (ys.map (·.length)).sum + ys.length * a.length ≤ 16777216 then some (.v .F (.str (Txt.join a ys))) else none
  | _ => none
def eJoin (ga gb : Ev) : Ev := fun ρ => (ga ρ).bind fun t ρ1 => match (derT ρ1 t).bind asS with
  | some z => (gb ρ1).bind fun u ρ2 => match (derT ρ2 u).bind (joinO z) with
    | some r => .ok r ρ2
    | none => .no
  | none => .no
def strID : D → Option D
  | .int i => if i.natAbs.log2 < 1920 then some (.str (toString i)) else none
  | _ => none
def eStrI : Ev → Ev := eOp1 (rd1 strID)
theorem v_strI (hm : X.mg "str" = none) (ha : PEv X G W ios a ga) (hg : Gl X "str" := by rfl) (hs : starEach [a] X.env = (false, eval a X.env) :: starEach [] X.env := by rfl) : PEv X G W ios (.Call (.Name "str" p) [a] [] pos) (eStrI ga) :=
  v_ty1 call_str_int (Rd1.op (by
    intro H x dx d Q hx e q
    cases dx <;> simp only [strID, reduceCtorEq] at e
    split at e
    · cases e
      simp only [Rep] at hx
      subst hx
      exact ⟨_, rfl, by assumption, q _ fun P => by simp only [Rep]⟩
    · cases e)) hm ha hg (hs := hs)

/-! ### str(o), o an own instance with __str__ -/
def rStrO (C : Addr) (sp : Sp) : List V → Hp → VK → Prop := fun xs H Q => ∃ a dx fs, xs = [.ref a] ∧ H a = some (.ins C dx fs) ∧ sp [.ref a] H (fun v H' => (∃ z, v = .str z) ∧ Q v H') fun _ _ _ => False
def isStrT : Tm → Bool
  | .v _ (.str _) => true
  | _ => false
def eStrO (c : Nat) (fn : Fn) (ms : List Md) (g0 : Ev) : Ev := fun ρ => (g0 ρ).bind fun t0 ρ1 => if isOb c (derT ρ1 t0) = true then match callF fn ms [t0] ρ1 with
  | .ok t ρ2 => if isStrT t = true then .ok t ρ2 else .no
  | _ => .no
  else .no
/-! ### isinstance(x, T), T a built-in type -/
inductive Ty | non | bl | int | str | tup | lst | dic
  deriving DecidableEq
def tyD : D → Option Ty
  | .non => some .non
  | .bl _ => some .bl
  | .int _ => some .int
  | .str _ => some .str
  | .tup _ => some .tup
  | .lst _ => some .lst
  | .dK _ _ => some .dic
  | _ => none
def Ty.nm : Ty → String
  | .non => "NoneType" | .bl => "bool" | .int => "int" | .str => "str" | .tup => "tuple" | .lst => "list" | .dic => "dict"
def isiB (a T : Ty) : Bool := decide (a = T) || (decide (a = .bl) && decide (T = .int))
theorem kitB_of (a T : Ty) (hT : T ≠ .non) : kitB a.nm T.nm = some (isiB a T) := by
  cases T <;> first | exact absurd rfl hT | (cases a <;> decide +kernel)
theorem tyX_of {K : PySem.W.Frag} {H : Hp} {P : Addr → Prop} {d : D} {v : V} {t : Ty} (h : Rep G H P d v) (e : tyD d = some t) : TyX K H v (.type t.nm) := by
  cases d <;> simp only [tyD, reduceCtorEq, Option.some.injEq] at e <;> subst e <;> simp only [Rep] at h
  · subst h; exact .base .non
  · subst h; exact .base (.bl _)
  · subst h; exact .base (.int _)
  · subst h; exact .base (.str _)
  · obtain ⟨a, vs, rfl, h1, _⟩ := h; exact .base (.tup h1)
  · obtain ⟨a, vs, rfl, _, h1, _⟩ := h; exact .base (.lst h1)
  · obtain ⟨a, vs, rfl, _, h1, _⟩ := h; exact .base (.dK h1)
def isiD (T : Ty) (d : D) : Option D := (tyD d).map fun a => .bl (isiB a T)
def eIsi (T : Ty) : Ev → Ev := eOp1 (rd1 (isiD T))
theorem v_isi {T : Ty} (hT : T ≠ .non) (hm : X.mg "isinstance" = none) (hmt : X.mg x = none) (hv : bootBuiltins x = some (.type T.nm)) (ha : PEv X G W ios a ga) (hg : Gl X "isinstance" := by rfl) (hgt : Gl X x := by rfl) (hn : x ≠ "__name__" := by decide) (hdb : (x == ("__debug__" : Str)) = false := by decide)
    (hs : starEach [a, .Name x p2] X.env = (false, eval a X.env) :: starEach [.Name x p2] X.env := by rfl) (hs2 : starEach [.Name x p2] X.env = (false, eval (.Name x p2) X.env) :: starEach [] X.env := by rfl) (hpl : (backTo pos (starEach [.Name x p2] X.env)).any (·.1) = false := by rfl) :
    PEv X G W ios (.Call (.Name "isinstance" p) [a, .Name x p2] [] pos) (eIsi T ga) :=
  pe_imp (pe_callB call_isi hg hm (by decide +kernel) (pa_cons ha (pa_cons (pe_bltn (v := .ty T.nm) hgt hmt hv rfl hn hdb) pa_nil hs2) hs) (by decide) (by decide) hs hpl) fun σ H Q q => by
    show tEv G W ios ga σ H fun x H1 => rIsi X.K [x, .ty T.nm] H1 Q
    refine op1_end (f := rd1 (isiD T)) (r := fun x H Q => rIsi X.K [x, .ty T.nm] H Q) (Rd1.op ?_) rfl q
    intro H x dx d Q hx e q
    unfold isiD at e
    simp only [Option.map_eq_some_iff] at e
    obtain ⟨t, e, rfl⟩ := e
    exact ⟨x, .ty T.nm, _, _, _, rfl, .ty _, tyX_of hx e, kit_ty (kitB_of t T hT), q _ fun P => by simp only [Rep]⟩

/-! ### all(xs) -/
def bsD : List D → Option (List Bool)
  | [] => some []
  | .bl i :: ds => (bsD ds).map (i :: ·)
  | _ => none
theorem bsD_map : ∀ ns : List Bool, bsD (ns.map .bl) = some ns
  | [] => rfl
  | n :: ns => by simp [bsD, bsD_map ns]
theorem bsD_eq : ∀ {ds : List D} {ns : List Bool}, bsD ds = some ns → ds = ns.map .bl
  | [], ns, e => by simp only [bsD, Option.some.injEq] at e; subst e; rfl
  | d :: ds, ns, e => by
    cases d <;> simp only [bsD, reduceCtorEq, Option.map_eq_some_iff] at e
    obtain ⟨ms, e, rfl⟩ := e
    rw [bsD_eq e]
    rfl
theorem reps_bs {H : Hp} {P : Addr → Prop} : ∀ {ns : List Bool} {vs : List V}, Reps G H P (ns.map .bl) vs → vs = ns.map V.bl
  | [], vs, h => by simpa [Reps] using h
  | n :: ns, vs, h => by
    simp only [List.map_cons, Reps, Rep] at h
    obtain ⟨v, r, rfl, rfl, h⟩ := h
    rw [reps_bs h]
    rfl
def allD : D → Option D
  | .lst xs => (bsD xs).map fun bs => .bl (bs.all id)
  | _ => none
def eAll : Ev → Ev := eOp1 (rd1 allD)
theorem v_all (hc : X.calm = true) (hm : X.mg "all" = none) (ha : PEv X G W ios a ga) (hg : Gl X "all" := by rfl) (hs : starEach [a] X.env = (false, eval a X.env) :: starEach [] X.env := by rfl) : PEv X G W ios (.Call (.Name "all" p) [a] [] pos) (eAll ga) :=
  v_b1 (cr_all hc) (Rd1.op (by
    intro H x dx d Q hx e q
    cases dx <;> simp only [allD, reduceCtorEq, Option.map_eq_some_iff] at e
    obtain ⟨bs, e, rfl⟩ := e
    simp only [Rep] at hx
    obtain ⟨a, vs, rfl, _, h1, h2⟩ := hx
    rw [bsD_eq e] at h2
    rw [reps_bs h2] at h1
    exact ⟨a, bs, rfl, .of h1, q _ fun P => by simp only [Rep]⟩)) hm ha hg (hs := hs)

/-! ### sorted(xs), pairs of ints -/
def pI (p : Int × Int) : D := .tup [.int p.1, .int p.2]
def pairsD : List D → Option (List (Int × Int))
  | [] => some []
  | .tup [.int i, .int j] :: ds => (pairsD ds).map ((i, j) :: ·)
  | _ => none
/-- by the first, then by the second -/
def leP (x y : Int × Int) : Bool := decide (x.1 < y.1) || (decide (x.1 = y.1) && decide (x.2 ≤ y.2))
def psort (ps : List (Int × Int)) : List (Int × Int) := ps.mergeSort leP
def opSortP (t : Tm) : Option Tm := match toD t with
  | .lst xs => (pairsD xs).map fun ps => .v .O (.lst ((psort ps).map pI))
  | _ => none
def opSort2 (t : Tm) : Option Tm := match opSort t with
  | some r => some r
  | none => opSortP t
def eSort2 : Ev → Ev := eOp1 opSort2
end
end PV

namespace PV
open PySem PySem.Spec L2
/-! chained comparisons, enumerate over lists, in over data, texts in tuples, a method of a new list -/
section
variable {G : Gx} {W : WX} {pr : Addr → Prop} {io : List (Nat × V)} {σ : L2.St} {s s1 s2 : Sx} {ios : List Nat} {Q : VK} {X : Cx} {a b c e o d : Expr} {es : List Expr} {pos p pos2 p2 tpos apos cpos : Pos} {x m : Str} {ga gb gc gd gi g0 : Ev} {gs gk : Ss → OuL} {kk : Nat} {elts : List Expr}
/-! ### a <= b <= c -/
def chK (f : Tm → Tm → Option Tm) (t u : Tm) (ρ : Ss) (k : Ss → Ou) : Ou := match derT ρ t, derT ρ u with
  | some x, some y => match f x y with
    | some (.v .F (.bl true)) => k ρ
    | some (.v .F (.bl false)) => .ok (.v .F (.bl false)) ρ
    | _ => .no
  | _, _ => .no
def chE (f : Tm → Tm → Option Tm) (t u : Tm) (ρ : Ss) : Ou := match derT ρ t, derT ρ u with
  | some x, some y => match f x y with
    | some r => .ok r ρ
    | _ => .no
  | _, _ => .no
def eCh2 (f g : Tm → Tm → Option Tm) (ga gb gc : Ev) : Ev := fun ρ => (ga ρ).bind fun t ρ1 => (gb ρ1).bind fun u ρ2 => chK f t u ρ2 fun ρ2 => (gc ρ2).bind fun w ρ3 => chE g u w ρ3
def eCh3 (f g h : Tm → Tm → Option Tm) (ga gb gc gd : Ev) : Ev := fun ρ => (ga ρ).bind fun t ρ1 => (gb ρ1).bind fun u ρ2 => chK f t u ρ2 fun ρ2 => (gc ρ2).bind fun w ρ3 => chK g u w ρ3 fun ρ3 => (gd ρ3).bind fun z ρ4 => chE h w z ρ4
def tChain3 (r r' r'' : R2) (ta tb tc td : TE) : TE := fun σ H Q => ta σ H fun x H1 => tb σ H1 fun y H2 => r x y H2 fun z H3 => ∃ k, z = .bl k ∧
  (if k = true then tc σ H3 fun w H4 => r' y w H4 fun z H5 => ∃ k, z = .bl k ∧ (if k = true then td σ H5 fun v H6 => r'' w v H6 Q else Q (.bl false) H5) else Q (.bl false) H3)
/-! ### enumerate over a list or a tuple -/
def itemsEnA : Tm → Option (List Tm)
  | .v k (.tup xs) => some ((enumD 0 xs).map (subK k))
  | .v k (.lst xs) => some ((enumD 0 xs).map (subK k))
  | _ => none
def itEnA (g : Ev) : Iv := fun ρ => (g ρ).bindL fun t ρ1 => match itemsEnA t with
  | some ts => .ok ts ρ1
  | none => .no
/-! ### in over data -/
def strsT : List D → Option (List Str)
  | [] => some []
  | .str a :: ds => (strsT ds).map (a :: ·)
  | _ => none
theorem strsT_eq : ∀ {ds : List D} {l : List Str}, strsT ds = some l → ds = l.map D.str
  | [], l, h => by cases h; rfl
  | .str a :: ds, l, h => by
    simp only [strsT, Option.map_eq_some_iff] at h
    obtain ⟨l', h, rfl⟩ := h
    rw [strsT_eq h]; rfl
  | .non :: _, l, h => by simp [strsT] at h
  | .bl _ :: _, l, h => by simp [strsT] at h
  | .int _ :: _, l, h => by simp [strsT] at h
  | .tup _ :: _, l, h => by simp [strsT] at h
  | .lst _ :: _, l, h => by simp [strsT] at h
  | .dK _ _ :: _, l, h => by simp [strsT] at h
  | .dT _ _ :: _, l, h => by simp [strsT] at h
  | .ins _ _ :: _, l, h => by simp [strsT] at h
  | .scr _ :: _, l, h => by simp [strsT] at h
  | .kt :: _, l, h => by simp [strsT] at h
/-- a text in a tuple of texts, a datum in a list -/
def inP (neg : Bool) (x y : D) : Option D := match x, y with
  | .str a, .tup ys => (strsT ys).map fun l => .bl (if neg then !decide (a ∈ l) else decide (a ∈ l))
  | x, .lst ys => match toPy x, toPys ys with
    | some p, some qs => if SeqAt.shaped p = true ∧ SeqAt.shaped (.list qs) = true then some (.bl (if neg then !(qs.any fun z => PyData.eqv z p) else qs.any fun z => PyData.eqv z p)) else none
    | _, _ => none
  | _, _ => none
def inE (neg : Bool) (x y : D) : Option D := match inD neg x y with
  | some r => some r
  | none => inP neg x y
theorem inV_strs (a : Str) : ∀ ns : List Str, inV (.str a) (ns.map V.str) = decide (a ∈ ns)
  | [] => rfl
  | n :: ns => by
    have ih := inV_strs a ns
    unfold inV at ih ⊢
    rw [List.map_cons, List.any_cons, ih]
    show (n == a || decide (a ∈ ns)) = decide (a ∈ n :: ns)
    by_cases h : n = a
    · subst h; simp
    · have : ¬ a = n := fun z => h z.symm
      simp [h, this]
theorem flatV_strs (ns : List Str) : (ns.map V.str).all flatV = true := by
  rw [List.all_eq_true]
  intro v hv
  obtain ⟨n, _, rfl⟩ := List.mem_map.mp hv
  rfl
def rInA (K : PySem.W.Frag) (neg : Bool) : R2 := fun x y H Q => rIn K neg x y H Q ∨ (if neg then rNotInD K x y H Q else rInD K x y H Q)
theorem rdInE {K : PySem.W.Frag} (neg : Bool) : Rd2 G (inE neg) (rInA K neg) := by
  intro H x y dx dy d Q hx hy e q
  unfold inE at e
  cases e0 : inD neg dx dy with
  | some r =>
    rw [e0] at e
    cases e
    exact .inl (rdIn neg H x y dx dy _ Q hx hy e0 q)
  | none =>
    rw [e0] at e
    dsimp only at e
    unfold inP at e
    split at e
    · rename_i a ys
      simp only [Option.map_eq_some_iff] at e
      obtain ⟨l, e, rfl⟩ := e
      simp only [Rep] at hx hy
      subst hx
      obtain ⟨a', vs, rfl, h1, h2⟩ := hy
      rw [strsT_eq e] at h2
      rw [reps_strs h2] at h1
      exact .inl ⟨a', _, rfl, .inr (.of h1), rfl, flatV_strs l, by rw [inV_strs]; exact q _ fun P => by simp only [Rep]⟩
    · rename_i ys
      split at e
      · rename_i p qs e1 e2
        split at e
        · rename_i hs
          cases e
          have hd1 := Rep.dp (K := K) _ _ _ hx e1
          have hd2 := Rep.dp (K := K) (.lst ys) _ (.list qs) hy (by simp only [toPy, e2, Option.map_some])
          refine .inr ?_
          cases neg with
          | false => rw [if_neg Bool.false_ne_true]; exact ⟨p, qs, hd1, hd2, hs.1, hs.2, q _ fun P => by simp only [Rep]; rfl⟩
          | true => rw [if_pos rfl]; exact ⟨p, qs, hd1, hd2, hs.1, hs.2, q _ fun P => by simp only [Rep]; rfl⟩
        · cases e
      · cases e
    · cases e
def eInE : Ev → Ev → Ev := eOp2 (rd2 (inE false))
def eNotInE : Ev → Ev → Ev := eOp2 (rd2 (inE true))
theorem op_notInA {k : Nat} (hr : Room k X.A) : OpR X (compareOp .NotIn) (rInA X.K true) := op_notIn_seq.or (op_notInD (by have := hr.un; omega))
theorem t_notInE {k : Nat} (hr : Room k X.A) (ha : PEv X G W ios a ga) (hb : PEv X G W ios b gb) (hm : behindInMarks .NotIn b = false := by rfl) : PTv X G W ios (.Compare a [.NotIn] [b] pos) (eNotInE ga gb) := t_cmp (op_notInA hr) (Rd2.op (rdInE true)) ha hb hm
/-! ### a method of a list that nobody else has: e.m(x, ..) -/
def eNm (op : List D → List D → Option (D × List D)) (g : Ev) (gs : Ss → OuL) : Ev := fun ρ => (g ρ).bind fun t ρ1 => match t with
  | .v .O (.lst xs) => (gs ρ1).bind fun ts ρ2 => match frzs ts with
    | some ds => match op xs ds with
      | some (x, xs') => if xs'.length ≤ sizeLine then .ok (.v .F x) ρ2 else .no
      | none => .no
    | none => .no
  | _ => .no
variable {name : Str} {apos : Pos} {id : String} {rr : V → List V → Hp → VK → Prop} {op : List D → List D → Option (D × List D)}
/-! ### sorted(set(xs)): fewer than 64 different ones -/
theorem few_eq {ks ns : List Int} (nd : ks.Nodup) (h : ∀ k, k ∈ ks ↔ k ∈ ns) : ks.length = (usort ns).length :=
  ((List.perm_ext_iff_of_nodup nd ((usort_lt ns).imp fun h => Int.ne_of_lt h)).mpr fun k => by rw [h, usort_mem]).length_eq
def rSortedSet2 (w : World) (ns : List Int) : List V → Hp → VK → Prop := fun vs H Q => ∃ (a : Addr) (n : Nat), vs = [V.ref a] ∧ H a = some (SetO w a (fun k => decide (k ∈ ns)) n) ∧ (usort ns).length < 64 ∧
  ∀ (p : Addr), H p = none → Q (.ref p) (upd H p (.lst ((usort ns).map V.int)))
theorem cr_sortedSet2 (hc : X.calm = true) (ns : List Int) : CallR X (.builtin "sorted") (rSortedSet2 X.w ns) := by
  intro pins s σ H vs us Q I r h
  obtain ⟨a, n, rfl, ha, h64, q⟩ := h
  refine cr_sortedSet hc pins s σ H _ us Q I r ⟨a, _, n, rfl, ha, ?_, fun ms p h1 h2 h3 hp => ?_⟩
  · obtain ⟨o, es, ep, t, _, _, _, _, nd, hm, _, _, hn, _, _⟩ := setO_get I ha
    have := few_eq (ns := ns) nd fun k => by rw [← hm k, decide_eq_true_iff]
    rw [List.length_map, Array.length_toList, hn] at this
    omega
  · have e2 : ms = usort ns := usort_of h1 fun k => by rw [h2, decide_eq_true_iff]
    subst e2
    exact q p hp
def ssD2 (xs : List D) : Option Tm := match intsD xs with
  | some ns => if ns.length + 1 < scanBound ∧ (usort ns).length < 64 then some (.v .O (.lst ((usort ns).map .int))) else none
  | none => none
def opSS2 (t : Tm) : Option Tm := match toD t with
  | .lst xs => ssD2 xs
  | .tup xs => ssD2 xs
  | .kt => some (.v .O (.lst []))
  | _ => none
def eSortSet2 : Ev → Ev := eOp1 opSS2
theorem v_sortSet2 (hK : G.K = X.K) (hc : X.calm = true) (hm : X.mg "sorted" = none) (hm2 : X.mg "set" = none) (ha : PEv X G W ios a ga) (hg : Gl X "sorted" := by rfl) (hg2 : Gl X "set" := by rfl)
    (hs : starEach [.Call (.Name "set" p2) [a] [] pos2] X.env = (false, eval (.Call (.Name "set" p2) [a] [] pos2) X.env) :: starEach [] X.env := by rfl) (hs2 : starEach [a] X.env = (false, eval a X.env) :: starEach [] X.env := by rfl) :
    PEv X G W ios (.Call (.Name "sorted" p) [.Call (.Name "set" p2) [a] [] pos2] [] pos) (eSortSet2 ga) := by
  have cr : CallR X (.builtin "sorted") (fun vs H Q => ∃ ns, rSortedSet2 X.w ns vs H Q) := fun pins s σ H vs us Q I r ⟨ns, h⟩ => cr_sortedSet2 hc ns pins s σ H vs us Q I r h
  refine pe_imp (pe_callB cr hg hm (by decide +kernel) (pa_cons (pe_callTy (cr_setI hc) hg2 hm2 (by decide +kernel) (pa_cons ha pa_nil hs2) (by decide) (by decide) hs2 (by rfl)) pa_nil hs) (by decide) (by decide) hs (by rfl)) fun σ H Q q => ?_
  refine op1_end (r := fun x H Q => rSetI X.w X.K [x] H fun y H1 => ∃ ns, rSortedSet2 X.w ns [y] H1 Q) ?_ rfl q
  intro pr io σ s x tx t ox Q hr hx e q
  have hd := TmR.toD _ _ _ hx
  have fin : ∀ (a : Addr) (ns : List Int), x = .ref a → (SqL X.K s.H a (ns.map V.int) ∨ SqT X.K s.H a (ns.map V.int)) → ns.length + 1 < scanBound → (usort ns).length < 64 → t = .v .O (.lst ((usort ns).map .int)) → rSetI X.w X.K [x] s.H fun y H1 => ∃ ns, rSortedSet2 X.w ns [y] H1 Q := by
    rintro a ns rfl hsq hl hl2 rfl
    refine ⟨a, ns, rfl, hsq, hl, fun p c hcl hp => ⟨ns, p, c, rfl, upd_same, hl2, fun p2 hp2 => ?_⟩⟩
    exact (q.later (Ext.new hp _)).lst (hr.new hp _) (reps_of_ints _) hp2
  unfold opSS2 at e
  split at e
  · rename_i xs hxs
    rw [hxs] at hd
    simp only [Rep] at hd
    obtain ⟨a, vs, rfl, _, h1, h2⟩ := hd
    unfold ssD2 at e
    split at e
    · rename_i ns hns
      split at e
      · rename_i hl
        cases e
        rw [intsD_eq hns] at h2
        rw [reps_ints h2] at h1
        exact fin a ns rfl (.inl (.of h1)) hl.1 hl.2 rfl
      · cases e
    · cases e
  · rename_i xs hxs
    rw [hxs] at hd
    simp only [Rep] at hd
    obtain ⟨a, vs, rfl, h1, h2⟩ := hd
    unfold ssD2 at e
    split at e
    · rename_i ns hns
      split at e
      · rename_i hl
        cases e
        rw [intsD_eq hns] at h2
        rw [reps_ints h2] at h1
        exact fin a ns rfl (.inr (.of h1)) hl.1 hl.2 rfl
      · cases e
    · cases e
  · rename_i hxs
    rw [hxs] at hd
    simp only [Rep] at hd
    obtain ⟨a, rfl, h1⟩ := hd
    cases e
    exact fin a [] rfl (.inr (kt_mono (hK ▸ h1))) (by decide) (by simp [usort, isort]) (by simp [usort, isort])
  · cases e
/-! ### repr of a bool, of None, of a text -/
def boS (b : Bool) : Str := if b then "True" else "False"
def reprD2 : D → Option D
  | .bl b => some (.str (boS b))
  | .non => some (.str "None")
  | .str x => if (reprText x).length ≤ sizeLine then some (.str (reprText x)) else none
  | d => reprD d
def rRepr2 (X : Cx) : List V → Hp → VK → Prop := fun vs H Q => (∃ b, vs = [.bl b] ∧ Q (.str (boS b)) H) ∨ (vs = [.non] ∧ Q (.str "None") H) ∨ (∃ x, vs = [.str x] ∧ (reprText x).length ≤ sizeLine ∧ Q (.str (reprText x)) H) ∨ rRepr X vs H Q
theorem cr_repr2 {k : Nat} (hr : RoomG k X.A) : CallR X (.builtin "repr") (rRepr2 X) := by
  intro pins s σ H vs us Q I r h
  rcases h with ⟨b, rfl, q⟩ | ⟨rfl, q⟩ | ⟨x, rfl, hz, q⟩ | h
  · cases r with
    | cons ry rt =>
      cases rt
      cases ry
      exact PySem.P.repr_of_bool ⟨.str _, H, I.tok _, ⟨_, rfl⟩, q⟩
  · cases r with
    | cons ry rt =>
      cases rt
      cases ry
      exact PySem.P.repr_of_none ⟨.str _, H, I.tok _, ⟨_, rfl⟩, q⟩
  · cases r with
    | cons ry rt =>
      cases rt
      obtain ⟨t, rfl⟩ := ry
      exact PySem.P.repr_of_str ⟨.str _, H, I.tok _, ⟨_, rfl⟩, q⟩ hz
  · exact cr_repr hr pins s σ H vs us Q I r h
def eRepr2 : Ev → Ev := eOp1 (rd1 reprD2)
end
end PV

namespace PV
open PySem PySem.Spec L2
/-! what a name owns is lent to one expression -/
mutual
def eqDd : D → D → Bool
  | .non, .non => true
  | .bl a, .bl b => a == b
  | .int a, .int b => decide (a = b)
  | .str a, .str b => decide (a = b)
  | .tup a, .tup b => eqDs a b
  | .lst a, .lst b => eqDs a b
  | .dK k a, .dK l b => decide (k = l) && eqDs a b
  | .dT k a, .dT l b => eqDs k l && eqDs a b
  | .ins c a, .ins e b => decide (c = e) && eqDs a b
  | .scr a, .scr b => decide (a = b)
  | .kt, .kt => true
  | _, _ => false
def eqDs : List D → List D → Bool
  | [], [] => true
  | a :: as, b :: bs => eqDd a b && eqDs as bs
  | _, _ => false
end
mutual
def eqT : Tm → Tm → Bool
  | .v k a, .v l b => decide (k = l) && eqDd a b
  | .tp a, .tp b => eqTs a b
  | .ls a, .ls b => eqTs a b
  | .ob c a, .ob e b => decide (c = e) && eqTs a b
  | .loc i, .loc j => decide (i = j)
  | _, _ => false
def eqTs : List Tm → List Tm → Bool
  | [], [] => true
  | a :: as, b :: bs => eqT a b && eqTs as bs
  | _, _ => false
end
def eqSs : Ss → Ss → Bool
  | [], [] => true
  | none :: as, none :: bs => eqSs as bs
  | some a :: as, some b :: bs => eqT a b && eqSs as bs
  | _, _ => false
mutual
def noB : Tm → Bool
  | .v .B _ => false
  | .v .F _ => true
  | .v .O _ => true
  | .tp ts => noBs ts
  | .ls ts => noBs ts
  | .ob _ ts => noBs ts
  | .loc _ => false
def noBs : List Tm → Bool
  | [] => true
  | t :: ts => noB t && noBs ts
end
mutual
theorem TmR.noB {G : Gx} {H : Hp} {fz pr pr' : Addr → Prop} : ∀ (t : Tm) (v : V) (os : List Addr), noB t = true → TmR G H fz pr t v os → TmR G H fz pr' t v os
  | .v .F d, v, os, _, h => by simp only [TmR] at h ⊢; exact h
  | .v .B d, v, os, e, h => by simp [PV.noB] at e
  | .v .O d, v, os, _, h => by simp only [TmR] at h ⊢; exact h
  | .tp ts, v, os, e, h => by
    simp only [TmR, PV.noB] at h e ⊢
    obtain ⟨a, vs, e1, h1, h2⟩ := h
    exact ⟨a, vs, e1, h1, TmRs.noB ts vs os e h2⟩
  | .ls ts, v, os, e, h => by
    simp only [TmR, PV.noB] at h e ⊢
    obtain ⟨a, vs, o, e1, e2, h1, h2⟩ := h
    exact ⟨a, vs, o, e1, e2, h1, TmRs.noB ts vs o e h2⟩
  | .ob c ts, v, os, e, h => by
    simp only [TmR, PV.noB] at h e ⊢
    obtain ⟨a, dx, vs, o, e1, e2, h1, hl, h2⟩ := h
    exact ⟨a, dx, vs, o, e1, e2, h1, hl, TmRs.noB ts vs o e h2⟩
  | .loc i, v, os, e, h => by simp [PV.noB] at e
theorem TmRs.noB {G : Gx} {H : Hp} {fz pr pr' : Addr → Prop} : ∀ (ts : List Tm) (vs : List V) (os : List Addr), noBs ts = true → TmRs G H fz pr ts vs os → TmRs G H fz pr' ts vs os
  | [], vs, os, _, h => by simp only [TmRs] at h ⊢; exact h
  | t :: ts, vs, os, e, h => by
    simp only [TmRs, noBs, Bool.and_eq_true] at h e ⊢
    obtain ⟨v, r, o1, o2, e1, e2, h1, h2⟩ := h
    exact ⟨v, r, o1, o2, e1, e2, TmR.noB t v o1 e.1 h1, TmRs.noB ts r o2 e.2 h2⟩
end
def okB1 : Tm → Bool
  | .v _ _ => true
  | t => noB t
def okB : Ss → Bool
  | [] => true
  | none :: ρ => okB ρ
  | some t :: ρ => okB1 t && okB ρ
section
variable {G : Gx} {H H' : Hp} {fz fz' pr pr' : Addr → Prop}
theorem TmR.back {t : Tm} {v : V} {o o' : List Addr} (e : okB1 t = true) (h' : TmR G H' fz' pr' t v o') (h : TmR G H fz pr t v o) (hf : ∀ a, fz a → fz' a) (hk : ∀ a u, (fz a ∨ pr a) → H a = some u → H' a = some u) (ht : Tk H H') : TmR G H' fz' pr t v o' := by
  cases t with
  | v k d =>
    cases k with
    | F => simp only [TmR] at h' ⊢; exact h'
    | O => simp only [TmR] at h' ⊢; exact h'
    | B =>
      simp only [TmR] at h h' ⊢
      exact ⟨h'.1, Rep.keep (fun a p => p.imp (hf a) id) (fun a u p => hk a u p) ht _ _ h.2⟩
  | tp ts => exact TmR.noB _ _ _ (by simpa [okB1] using e) h'
  | ls ts => exact TmR.noB _ _ _ (by simpa [okB1] using e) h'
  | ob c ts => exact TmR.noB _ _ _ (by simpa [okB1] using e) h'
  | loc i => simp [okB1, PV.noB] at e
theorem Sl.back0 (hf : ∀ a, fz a → fz' a) (hk : ∀ a u, (fz a ∨ pr a) → H a = some u → H' a = some u) (ht : Tk H H') : ∀ {ρ : Ss} {σ : L2.St} {o o' : List Addr}, okB ρ = true → Sl G H' fz' pr' ρ σ o' → Sl G H fz pr ρ σ o → Sl G H' fz' pr ρ σ o'
  | [], σ, o, o', _, h', h => by simp only [Sl] at h' ⊢; exact h'
  | none :: ρ, σ, o, o', e, h', h => by
    simp only [Sl, okB] at h h' e ⊢
    obtain ⟨x, r, e1, h'⟩ := h'
    obtain ⟨x2, r2, e2, h⟩ := h
    rw [e1] at e2
    cases e2
    exact ⟨x, r, e1, Sl.back0 hf hk ht e h' h⟩
  | some t :: ρ, σ, o, o', e, h', h => by
    simp only [Sl, okB, Bool.and_eq_true] at h h' e ⊢
    obtain ⟨v, r, o1, o2, e1, e2, h1, h2⟩ := h'
    obtain ⟨v', r', p1, p2, e3, e4, k1, k2⟩ := h
    rw [e1] at e3
    cases e3
    exact ⟨v, r, o1, o2, e1, e2, TmR.back e.1 h1 k1 hf hk ht, Sl.back0 hf hk ht e.2 h2 k2⟩
theorem Sl.back {tb t : Tm} {v : V} {o2 : List Addr} (hb : ∀ w q, TmR G H' fz' pr' tb w q → q = []) (hf : ∀ a, fz a → fz' a) (hk : ∀ a u, (fz a ∨ pr a) → H a = some u → H' a = some u) (ht : Tk H H') (h2 : TmR G H' fz' pr t v o2) :
    ∀ {ρ : Ss} {i : Nat} {σ : L2.St} {o o' : List Addr}, okB ρ = true → ρ[i]? = some (some t) → σ[i]? = some (some v) → Sl G H' fz' pr' (ρ.set i (some tb)) σ o' → Sl G H fz pr ρ σ o → ∃ o1 o3, o' = o1 ++ o3 ∧ Sl G H' fz' pr ρ σ (o1 ++ (o2 ++ o3))
  | [], i, σ, o, o', _, e, _, _, _ => by simp at e
  | none :: ρ, 0, σ, o, o', _, e, _, _, _ => by simp at e
  | none :: ρ, i + 1, σ, o, o', e, e0, ev, h', h => by
    simp only [Sl, okB, List.set_cons_succ, List.getElem?_cons_succ] at h h' e e0 ⊢
    obtain ⟨x, r, e1, h'⟩ := h'
    obtain ⟨x2, r2, e2, h⟩ := h
    subst e1
    cases e2
    obtain ⟨o1, o3, e4, h4⟩ := Sl.back hb hf hk ht h2 e e0 (by simpa using ev) h' h
    exact ⟨o1, o3, e4, x, r, rfl, h4⟩
  | some t0 :: ρ, 0, σ, o, o', e, e0, ev, h', h => by
    simp only [Sl, okB, List.set_cons_zero, Bool.and_eq_true] at h h' e ⊢
    obtain ⟨w, r, q1, q2, e1, e2, k1, k2⟩ := h'
    obtain ⟨v', r', p1, p2, e3, e4, m1, m2⟩ := h
    subst e1
    cases e3
    have et : t0 = t := by simpa using e0
    subst et
    have evv : w = v := by simpa using ev
    subst evv
    have := hb _ _ k1
    subst this
    refine ⟨[], o', rfl, ?_⟩
    rw [List.nil_append] at e2
    subst e2
    exact ⟨w, r, o2, o', rfl, rfl, h2, Sl.back0 hf hk ht e.2 k2 m2⟩
  | some t0 :: ρ, i + 1, σ, o, o', e, e0, ev, h', h => by
    simp only [Sl, okB, List.set_cons_succ, List.getElem?_cons_succ, Bool.and_eq_true] at h h' e e0 ⊢
    obtain ⟨w, r, q1, q2, e1, e2, k1, k2⟩ := h'
    obtain ⟨v', r', p1, p2, e3, e4, m1, m2⟩ := h
    subst e1
    cases e3
    obtain ⟨o1, o3, e5, h5⟩ := Sl.back hb hf hk ht h2 e.2 e0 (by simpa using ev) k2 m2
    subst e2 e5
    exact ⟨q1 ++ o1, o3, by simp, w, r, q1, o1 ++ (o2 ++ o3), rfl, by simp, TmR.back e.1 k1 m1 hf hk ht, h5⟩
end
section
variable {G : Gx} {W : WX} {pr : Addr → Prop} {io : List (Nat × V)} {σ : L2.St} {s s1 s2 : Sx} {ios : List Nat} {Q : VK} {X : Cx} {a b c e o d : Expr} {es : List Expr} {pos p : Pos} {x m : Str} {ga gb gc g : Ev} {gs gk : Ss → OuL} {i : Nat}
abbrev lentT (t : Tm) : Tm := .v .B (toD t)
/-- the state while what the i-th name owns is lent -/
structure Lent (G : Gx) (pr : Addr → Prop) (io : List (Nat × V)) (σ : L2.St) (s : Sx) (i : Nat) (t : Tm) (v : V) (o2 : List Addr) (s0 : Sx) : Prop where
  H : s0.H = s.H
  fz : s0.fz = s.fz
  ρ : s0.ρ = s.ρ.set i (some (lentT t))
  cell : σ[i]? = some (some v)
  rel : TmR G s.H s.fz pr t v o2
  sub : ∀ a ∈ o2, a ∈ s.os
  nd : o2.Nodup
  out : ∀ a ∈ o2, a ∉ s0.os
  os : ∀ a ∈ s0.os, a ∈ s.os
  sr : SR G (fun a => pr a ∨ a ∈ o2) io σ s0
theorem Lent.ext {t : Tm} {v : V} {o2 : List Addr} {s0 : Sx} (l : Lent G pr io σ s i t v o2 s0) (x : Ext s0 s1) : ∀ a u, (a ∈ o2 ∨ s.fz a ∨ pr a) → s.H a = some u → s1.H a = some u := fun a u h e => by
  refine x.keep a u (by rw [l.H]; exact e) fun z => ?_
  have hs := l.sr.sep a z
  rcases h with h | h | h
  · exact hs.2 (.inr h)
  · rw [l.fz] at hs; exact hs.1 h
  · exact hs.2 (.inl h)
/-- it comes back -/
theorem Lent.back {t : Tm} {v : V} {o2 : List Addr} {s0 : Sx} (r : SR G pr io σ s) (l : Lent G pr io σ s i t v o2 s0) (e : s.ρ[i]? = some (some t)) (ok : okB s.ρ = true) (r1 : SR G (fun a => pr a ∨ a ∈ o2) io σ s1) (x1 : Ext s0 s1) (eρ : s1.ρ = s.ρ.set i (some (lentT t))) :
    ∃ os', SR G pr io σ { s1 with ρ := s.ρ, os := os' } ∧ Ext s { s1 with ρ := s.ρ, os := os' } ∧ (∀ a ∈ os', a ∈ s1.os ∨ a ∈ o2) := by
  have tk : Tk s.H s1.H := by rw [← l.H]; exact x1.tk
  have hf : ∀ a, s.fz a → s1.fz a := fun a h => x1.fz a (by rw [l.fz]; exact h)
  have ht2 : TmR G s1.H s1.fz pr t v o2 := TmR.keep hf (fun a p => .inr p) tk _ _ _ (fun a u h => l.ext x1 a u h) l.rel
  have sl := r1.sl
  rw [eρ] at sl
  obtain ⟨o1, o3, eo, sl2⟩ := Sl.back (pr' := fun a => pr a ∨ a ∈ o2) (fun w q h => by simp only [TmR] at h; exact h.1) hf (fun a u h => l.ext x1 a u (.inr h)) tk ht2 ok e l.cell sl r.sl
  have nd := r1.nd
  rw [eo] at nd
  have h2 : ∀ a ∈ o2, a ∉ o1 ++ o3 := fun a ha z => (r1.sep a (by rw [eo]; exact z)).2 (.inr ha)
  have hos : ∀ a ∈ o1 ++ (o2 ++ o3), a ∈ s1.os ∨ a ∈ o2 := fun a ha => by
    rw [eo]
    simp only [List.mem_append] at ha ⊢
    grind
  have hdom : ∀ a, s.H a ≠ none → s1.H a ≠ none := fun a h => x1.dom a (by rw [l.H]; exact h)
  have bk : ∀ a ∈ s1.os, a ∈ s.os ∨ s.H a = none := fun a ha => by
    rcases x1.oso a ha with h | h
    · exact .inl (l.os a h)
    · exact .inr (by rw [← l.H]; exact h)
  refine ⟨o1 ++ (o2 ++ o3), ⟨sl2, ?_, fun a ha => ?_, fun a ha => ?_, r.iov⟩, ⟨fun a u eu n => ?_, hdom, tk, hf, fun a h => ?_, fun a ha => ?_⟩, hos⟩
  · have n2 := l.nd
    show (o1 ++ (o2 ++ o3)).Nodup
    simp only [List.nodup_append, List.mem_append] at nd h2 ⊢
    grind
  · rcases hos a ha with h | h
    · have := r1.sep a h
      exact ⟨this.1, fun z => this.2 (.inl z)⟩
    · have hs := r.sep a (l.sub a h)
      refine ⟨fun z => ?_, hs.2⟩
      rcases x1.fzo a z with z | z | z
      · rw [l.fz] at z; exact hs.1 z
      · exact l.out a h z
      · rw [l.H] at z; exact (r.own a (l.sub a h)).ne z
  · exact r1.dom a (ha.imp id .inl)
  · exact x1.keep a u (by rw [l.H]; exact eu) fun z => n (l.os a z)
  · rcases x1.fzo a h with z | z | z
    · rw [l.fz] at z; exact .inl z
    · exact .inr (.inl (l.os a z))
    · rw [l.H] at z; exact .inr (.inr z)
  · rcases hos a ha with h | h
    · exact bk a h
    · exact .inl (l.sub a h)
def eBor (i : Nat) (g : Ev) : Ev := fun ρ => match ρ[i]? with
  | some (some t) => if okB ρ = true then match g (ρ.set i (some (lentT t))) with
    | .ok u ρ' => match unB u with
      | some w => if eqSs ρ' (ρ.set i (some (lentT t))) = true then .ok w ρ else .no
      | none => .no
    | _ => .no
    else .no
  | _ => .no
end
end PV

namespace PV
open PySem PySem.Spec L2
/-! lists that an object owns -/
section
variable {G : Gx} {W : WX} {pr : Addr → Prop} {io : List (Nat × V)} {σ : L2.St} {s s1 s2 : Sx} {ios : List Nat} {Q : VK} {X : Cx} {a b e o d ie : Expr} {es : List Expr} {pos p pos2 apos cpos : Pos} {x m f name : Str} {ga gb gc g gi : Ev} {gs gk : Ss → OuL} {i j c : Nat}
def borV (i : Nat) (g : Ev) (ρ : Ss) : Option Tm := match ρ[i]? with
  | some (some t) => if okB ρ = true then match g (ρ.set i (some (lentT t))) with
    | .ok u ρ' => match unB u with
      | some w => if eqSs ρ' (ρ.set i (some (lentT t))) = true then some w else none
      | none => none
    | _ => none
    else none
  | _ => none
def borL (i : Nat) (gs : Ss → OuL) (ρ : Ss) : Option (List Tm) := match ρ[i]? with
  | some (some t) => if okB ρ = true then match gs (ρ.set i (some (lentT t))) with
    | .ok us ρ' => match unBs us with
      | some ws => if eqSs ρ' (ρ.set i (some (lentT t))) = true then some ws else none
      | none => none
    | _ => none
    else none
  | _ => none
/-- the attribute j, a list, of the object in the slot i -/
def obA (ρ : Ss) (c i j : Nat) : Option (List Tm × List D) := match ρ[i]? with
  | some (some (.ob c' ts)) => if c' = c then match ts[j]? with
    | some (.v .O (.lst xs)) => some (ts, xs)
    | _ => none
    else none
  | _ => none
def setA (ρ : Ss) (c i j : Nat) (ts : List Tm) (xs : List D) : Ss := ρ.set i (some (.ob c (ts.set j (.v .O (.lst xs)))))
/-- self.f.m(e, ..) -/
def eLmA (op : List D → List D → Option (D × List D)) (c j i : Nat) (gs : Ss → OuL) : Ev := fun ρ => match obA ρ c i j with
  | some (ts, xs) => match borL i gs ρ with
    | some us => match frzs us with
      | some ds => match op xs ds with
        | some (x, xs') => if xs'.length ≤ sizeLine then .ok (.v .F x) (setA ρ c i j ts xs') else .no
        | none => .no
      | none => .no
    | none => .no
  | none => .no
variable {id : String} {rr : V → List V → Hp → VK → Prop} {op : List D → List D → Option (D × List D)}
end
end PV

namespace PV
open PySem PySem.Spec L2
/-! self.f[e] += n, self.f += xs -/
section
variable {G : Gx} {W : WX} {pr : Addr → Prop} {io : List (Nat × V)} {σ : L2.St} {s s1 s2 : Sx} {ios : List Nat} {Q : VK} {X : Cx} {a b e o d ie : Expr} {es : List Expr} {pos p pos2 tpos : Pos} {x f : Str} {ga gb gc g gi : Ev} {gs gk : Ss → OuL} {i j c : Nat}
def sAugA (c j i : Nat) (gi : Ev) (fo : Int → Int → Int) (g : Ev) : Sm := fun ρ => match obA ρ c i j with
  | some (ts, xs) => match (borV i gi ρ).bind asI with
    | some k => match L2.atI xs k with
      | some (.int m) => match (borV i g ρ).bind asI with
        | some n => match ixN xs.length k with
          | some jj => .nx (setA ρ c i j ts (xs.set jj (.int (fo m n))))
          | none => .no
        | none => .no
      | _ => .no
    | none => .no
  | none => .no
def sExtA (c j i : Nat) (g : Ev) : Sm := fun ρ => match obA ρ c i j with
  | some (ts, xs) => match borV i g ρ with
    | some t => match opExt xs t with
      | some zs => if zs.length ≤ sizeLine then .nx (setA ρ c i j ts zs) else .no
      | none => .no
    | none => .no
  | none => .no
end
/-! C() -/
section
open PyProof.Rows
variable {X : Cx} {k : Nat} {f C : Addr} {fd : FuncData} {ps : List Str} {sp : Sp} {E : L2.St → XK} {x : Str} {p pos : Pos} {g : List Value → List Value → List Value} {gV : List V → List V → List V}
end
section
variable {G : Gx} {W : WX} {ios : List Nat} {X : Cx} {pos p : Pos} {x : Str} {c k n : Nat} {fa : Addr} {fd : FuncData} {ps : List Str} {fn : Fn} {ms : List Md} {C : Addr} {g : List Value → List Value → List Value} {gV : List V → List V → List V} {dv : List V}
end
end PV

namespace PV
open PySem PySem.Spec L2
/-! ### dicts whose keys are tuples (of ints, texts, None, tuples of these) -/
section
variable {G : Gx} {X : Cx} {pins : List (Addr × Obj)} {σ : L2.St} {s : Shared} {H : Hp} {P : Addr → Prop}
mutual
theorem rep_nested (hK : G.K = X.K) (I : Inv X pins σ H s) : ∀ (d : D) (v : V) (u : Value) (k : NestedKey), Rep G H P d v → RelV v u → keyN d = some k → NestedIs s.heap k u
  | .non, v, u, k, h, r, e => by
    simp only [Rep] at h; subst h
    simp only [keyN, Option.some.injEq] at e; subst e
    cases r; exact .none
  | .int i, v, u, k, h, r, e => by
    simp only [Rep] at h; subst h
    simp only [keyN, Option.some.injEq] at e; subst e
    obtain ⟨t, rfl⟩ := (show ∃ t, u = Value.int i t from r)
    exact .int _ _
  | .str x, v, u, k, h, r, e => by
    simp only [Rep] at h; subst h
    simp only [keyN, Option.some.injEq] at e; subst e
    obtain ⟨t, rfl⟩ := (show ∃ t, u = Value.str x t from r)
    exact .text _ _
  | .tup xs, v, u, k, h, r, e => by
    simp only [Rep] at h
    obtain ⟨a, vs, rfl, h1, h2⟩ := h
    obtain rfl : u = Value.ref a := r
    simp only [keyN, Option.map_eq_some_iff] at e
    obtain ⟨ks, e, rfl⟩ := e
    obtain ⟨_, its, rv, o, g1, g2, n, g3⟩ := (show ObjOk X.prog X.w H s.heap a (.tup vs) from I.hok a _ h1)
    exact .tup g1 g2 g3 (by simpa using reps_nested hK I xs vs its ks h2 rv e)
  | .kt, v, u, k, h, r, e => by
    simp only [Rep] at h
    obtain ⟨a, rfl, h1⟩ := h
    obtain rfl : u = Value.ref a := r
    simp only [keyN, Option.some.injEq] at e; subst e
    rcases h1 with (h1 | ⟨o, h1⟩) | ⟨o, its, n, g1, g2, g3, _, rv⟩
    · cases h1
    · cases h1
    · have e0 : its.toList = [] := by
        generalize its.toList = l at rv
        cases rv; rfl
      exact .tup (I.kIn _ _ (hK ▸ g1)) g2 g3 (by rw [e0]; exact .nil)
  | .bl b, v, u, k, h, r, e => by simp [keyN] at e
  | .lst xs, v, u, k, h, r, e => by simp [keyN] at e
  | .dK ks xs, v, u, k, h, r, e => by simp [keyN] at e
  | .dT ks xs, v, u, k, h, r, e => by simp [keyN] at e
  | .ins c xs, v, u, k, h, r, e => by simp [keyN] at e
  | .scr ns, v, u, k, h, r, e => by simp [keyN] at e
theorem reps_nested (hK : G.K = X.K) (I : Inv X pins σ H s) : ∀ (ds : List D) (vs : List V) (us : List Value) (ks : List NestedKey), Reps G H P ds vs → Vals vs us → keysN ds = some ks → NestedAll s.heap ks us
  | [], vs, us, ks, h, r, e => by
    simp only [Reps] at h; subst h
    simp only [keysN, Option.some.injEq] at e; subst e
    cases r; exact .nil
  | d :: ds, vs, us, ks, h, r, e => by
    simp only [Reps] at h
    obtain ⟨v, vr, rfl, h1, h2⟩ := h
    simp only [keysN] at e
    split at e
    · rename_i k kr e1 e2
      cases e
      cases r with
      | cons r1 r2 => exact .cons (rep_nested hK I d v _ k h1 r1 e1) (reps_nested hK I ds vr _ kr h2 r2 e2)
    · cases e
end
end
/-! the rules over the heap -/
/-- y is the key k -/
def KeyV (K : PySem.W.Frag) (H : Hp) (k : NestedKey) (y : V) : Prop := ∃ (G : Gx) (P : Addr → Prop) (d : D), G.K = K ∧ Rep G H P d y ∧ keyN d = some k
/-- at a stands a dict with the entries es; o: what the heap says of it -/
structure XD (K : PySem.W.Frag) (H : Hp) (a : Addr) (es : Ents) : Prop where
  sys : (a == sysModules) = false
  keys : ∀ e ∈ es, KeyV K H e.1 (.ref e.2.1) ∧ e.1.depth ≤ 8
  size : es.length ≤ sizeLine
section
variable {X : Cx} {pins : List (Addr × Obj)} {σ : L2.St} {s : Shared} {H : Hp} {a d : Addr} {es : Ents} {k : NestedKey} {y : V} {u : Value}
theorem KeyV.is (h : KeyV X.K H k y) (I : Inv X pins σ H s) (r : RelV y u) : NestedIs s.heap k u := by
  obtain ⟨G, P, d, hK, h, e⟩ := h
  exact rep_nested hK I d y u k h r e
theorem XD.at (x : XD X.K H a es) (I : Inv X pins σ H s) (hd : dictAt X.w a es s.heap) : s.heap.DictOfH (nestedKind X.prog X.w) a es := by
  obtain ⟨o, e, ep, g1, g2, g3, g4, g5⟩ := hd
  exact ⟨o, e, ep, g1, g2, g3, g4, fun q hq => ⟨(x.keys q hq).1.is I rfl, (x.keys q hq).2⟩, g5⟩
theorem ext_at {φ : Heap → Prop} (I : Inv X pins σ H s) (h : H a = some (.ext φ)) : φ s.heap := (show ObjOk X.prog X.w H s.heap a (.ext φ) from I.hok a _ h).1
/-- {} -/
def tDX0 (w : World) : TE := fun _ H Q => ∀ p, H p = none → (p == sysModules) = false → Q (.ref p) (upd H p (.ext (dictAt w p [])))
/-- d[y] = v -/
def rSetX (K : PySem.W.Frag) (w : World) : V → V → V → Hp → (Hp → Prop) → Prop := fun o i v H Q => ∃ a es k b, o = .ref a ∧ i = .ref b ∧ H a = some (.ext (dictAt w a es)) ∧ XD K H a es ∧ KeyV K H k i ∧ k.depth ≤ 8 ∧
  ∀ u, RelV v u → Q (upd H a (.ext (dictAt w a (storedH es k b u))))
/-- y in d -/
def tXIn (K : PySem.W.Frag) (w : World) (ty td : TE) : TE := fun σ H Q => ty σ H fun y H1 => td σ H1 fun x H2 => ∃ a es k b, x = .ref a ∧ y = .ref b ∧ H2 a = some (.ext (dictAt w a es)) ∧ XD K H2 a es ∧ KeyV K H2 k y ∧ k.depth ≤ 8 ∧ Q (.bl (atKey es k).isSome) H2
def tXNotIn (K : PySem.W.Frag) (w : World) (ty td : TE) : TE := fun σ H Q => ty σ H fun y H1 => td σ H1 fun x H2 => ∃ a es k b, x = .ref a ∧ y = .ref b ∧ H2 a = some (.ext (dictAt w a es)) ∧ XD K H2 a es ∧ KeyV K H2 k y ∧ k.depth ≤ 8 ∧ Q (.bl (!(atKey es k).isSome)) H2
variable {i o : Expr} {ty td : TE}
end
/-! walks over the keys; list(d) -/
section
variable {P : Program} {w : World} {K : PySem.W.Frag} {tg : Expr} {d : Addr} {o : Obj} {e : Array DictEntry} {ep : Nat} {es : Ents}
def Itx (w : World) (d : Addr) (o : Obj) (es : Ents) : It :=
  ⟨fun i H => H d = some (.frz o (.ext (dictAt w d es))) ∧ i < es.length, fun i H x H' => H' = H ∧ ∃ q, es[i]? = some q ∧ x = .ref q.2.1, fun i H => H d = some (.frz o (.ext (dictAt w d es))) ∧ es.length ≤ i⟩
end
/-- for k in d, d locked -/
def iKeysX (w : World) (td : TE) : TI := fun σ H R => td σ H fun x H1 => ∃ d o es, x = .ref d ∧ (d == sysModules) = false ∧ H1 d = some (.frz o (.ext (dictAt w d es))) ∧ R (Itx w d o es) H1
/-- list(d) -/
def rListX (w : World) : List V → Hp → VK → Prop := fun xs H Q => ∃ d es, xs = [V.ref d] ∧ (d == sysModules) = false ∧ es.length ≤ sizeLine ∧ H d = some (.ext (dictAt w d es)) ∧ ∀ p, H p = none → Q (.ref p) (upd H p (.lst (es.map fun e => V.ref e.2.1)))
end PV

namespace PV
open PySem PySem.Spec L2
/-! ### sorted of data -/
mutual
def encD : D → PyData
  | .non => .none
  | .bl b => .bool b
  | .int i => .int i
  | .str x => .str x
  | .tup xs => .tuple (encDs xs)
  | .lst xs => .list (encDs xs)
  | .kt => .tuple []
  | _ => .dict []
def encDs : List D → List PyData
  | [] => []
  | d :: ds => encD d :: encDs ds
end
section
variable {G : Gx} {X : Cx} {pins : List (Addr × Obj)} {σ : L2.St} {s : Shared} {H : Hp} {P : Addr → Prop}
end
/-- they can be sorted -/
def tupB : PyData → Bool
  | .tuple (_ :: _) => true
  | _ => false
def plainB : PyData → Bool
  | .none => false
  | .tuple _ => false
  | _ => true
def srtOk (ds : List D) : Bool := (ds.all fun d => ds.all fun e => PySem.W.alike (encD d) (encD e)) && (ds.all (fun d => tupB (encD d)) || ds.all fun d => plainB (encD d)) && ds.all fun d => decide ((encD d).depth ≤ 16)
def srtD (ds : List D) : List D := ds.mergeSort (PySem.W.dataLe false encD)
section
open PyProof.Rows PySem.W PySem.Calls
variable {prog : Program} {w : World} {A : Around} {E : Value → Shared → Prop} {s : Shared} {β : Type} {vs : List Value} {bs : List β} {enc : β → PyData} {R : Value → β → Prop}
end
section
open PyProof.Rows PySem.W PySem.Calls
variable {prog : Program} {w : World} {A : Around} {E : Value → Shared → Prop} {s : Shared} {vs : List Value}
end
section
open PySem.W
variable {G : Gx} {H : Hp} {P : Addr → Prop}
end
/-- sorted of a list, a tuple, a dict -/
def SrcV (K : PySem.W.Frag) (w : World) (H : Hp) (v : V) (xs : List V) : Prop := (∃ a, v = .ref a ∧ (SqL K H a xs ∨ SqT K H a xs)) ∨ ∃ d es, v = .ref d ∧ (d == sysModules) = false ∧ es.length ≤ sizeLine ∧ H d = some (.ext (dictAt w d es)) ∧ xs = es.map fun e => V.ref e.2.1
def rSortD (K : PySem.W.Frag) (w : World) : List V → Hp → VK → Prop := fun vs H Q => ∃ (v : V) (G : Gx) (P : Addr → Prop) (ds : List D) (xs : List V), vs = [v] ∧ G.K = K ∧ Reps G H P ds xs ∧ SrcV K w H v xs ∧ (xs.length < 2 ∨ srtOk ds = true) ∧
  ∀ p ys ds', H p = none → (if ds.length < 2 then ds' = ds else ds' = srtD ds) → (∀ (H' : Hp) (P' : Addr → Prop), Reps G H' P' ds xs → Reps G H' P' ds' ys) → Q (.ref p) (upd H p (.lst ys))
section
open PyProof.Rows PySem.W PySem.Calls
variable {X : Cx} {pins : List (Addr × Obj)} {σ : L2.St} {s : Shared} {H : Hp} {E : Value → Shared → Prop} {A : Around}
end
end PV

namespace PV
open PySem PySem.Spec L2
/-! dicts by entries: the layer's own expressions and statements -/
section
variable {G : Gx} {H : Hp} {P P' fz pr : Addr → Prop}
def isTupD : D → Bool
  | .tup _ => true
  | .kt => true
  | _ => false
/-! storing -/
def hasK (ks : List D) (kd : D) : Bool := ks.any fun q => decide (keyN q = keyN kd)
def putKs (ks : List D) (kd : D) : List D := if hasK ks kd = true then ks else ks ++ [kd]
def putXs (ks xs : List D) (kd d : D) : List D := if hasK ks kd = true then (ks.zip xs).map (fun p => if keyN p.1 = keyN kd then d else p.2) else xs ++ [d]
end
section
variable {G : Gx} {H : Hp} {P P' fz pr : Addr → Prop}
end
section
variable {G : Gx} {W : WX} {pr : Addr → Prop} {io : List (Nat × V)} {σ : L2.St} {s s1 : Sx} {ios : List Nat} {Q : VK} {X : Cx} {a b c e : Expr} {pos p p2 : Pos} {x : Str} {ga gb gc : Ev} {k : Nat}
/-! {} -/
def eDX0 : Ev := fun ρ => .ok (.v .O (.dT [] [])) ρ
theorem OuP.dct {ks xs : List D} {kv vs : List V} {es : Ents} (h : OuP G W pr io σ s (.ok (.v .O (.dT ks xs)) s.ρ) Q) (r : SR G pr io σ s) {p : Addr} (hp : s.H p = none) (de : DEnt p ks kv vs es) (h1 : Reps G s.H s.fz ks kv) (h2 : Reps G s.H s.fz xs vs) : Q (.ref p) (upd s.H p (.ext (dictAt G.w p es))) := by
  have f := r.fresh hp
  have kp : ∀ {ds : List D} {vs : List V}, Reps G s.H s.fz ds vs → Reps G (upd s.H p (.ext (dictAt G.w p es))) s.fz ds vs := fun hd => Reps.keep (fun _ z => z) (fun a o _ e => by show upd _ _ _ _ = _; rw [upd_ne (ne_of_none e hp)]; exact e) (tk_new hp _) _ _ hd
  refine h _ (s.new p (.ext (dictAt G.w p es))) [p] rfl (r.new hp _) (Ext.new hp _) ⟨?_, by simp, fun a ha => ?_⟩ fun a ha => ?_
  · show TmR _ _ _ _ _ _ _
    simp only [TmR, RepO]
    exact ⟨p, kv, vs, es, rfl, rfl, upd_same, de, kp h1, kp h2⟩
  · rw [List.mem_singleton] at ha; subst ha; exact f
  · rw [List.mem_singleton] at ha; subst ha; exact .inr hp
/-! list(d), sorted(xs) -/
def opListX (t : Tm) : Option Tm := match t with
  | .v _ (.dT ks _) => some (.v .O (.lst ks))
  | _ => none
def eListX : Ev → Ev := eOp1 opListX
def srtT (ds : List D) : Option Tm := if ds.length < 2 then some (.v .O (.lst ds)) else if srtOk ds = true then some (.v .O (.lst (srtD ds))) else none
def opSortD (t : Tm) : Option Tm := match t with
  | .v k (.lst xs) => (elk k xs).bind srtT
  | .v k (.tup xs) => (elk k xs).bind srtT
  | .v _ (.dT ks _) => srtT ks
  | .v _ .kt => some (.v .O (.lst []))
  | _ => none
def eSortD : Ev → Ev := eOp1 opSortD
end
end PV

namespace PV
open PySem PySem.Spec L2
/-! d[k] = v; k in d; for k in d -/
section
variable {G : Gx} {W : WX} {pr : Addr → Prop} {io : List (Nat × V)} {σ : L2.St} {s s1 : Sx} {ios : List Nat} {Q : VK} {X : Cx} {a b c e : Expr} {pos p p2 : Pos} {x : Str} {ga gb gc : Ev} {k : Nat}
def isDX (ρ : Ss) (i : Nat) : Bool := match ρ[i]? with
  | some (some (.v .O (.dT _ _))) => true
  | _ => false
/-- what is a key -/
def keyOk (kd : D) : Bool := match keyN kd with
  | some k => isTupD kd && decide (k.depth ≤ 8)
  | none => false
def tgSubX (i : Nat) (gi : Ev) : Tg := fun t ρ => if isDX ρ i = true then match gi ρ with
  | .ok u ρ2 => match ρ2[i]? with
    | some (some (.v .O (.dT ks xs))) => match (derT ρ2 u).bind frz with
      | some kd => match frz t with
        | some d => if keyOk kd = true ∧ ks.length < sizeLine then some (ρ2.set i (some (.v .O (.dT (putKs ks kd) (putXs ks xs kd d))))) else none
        | none => none
      | none => none
    | _ => none
  | _ => none
  else none
end
end PV

namespace PV
open PySem PySem.Spec L2
/-! k in d -/
def rInX (K : PySem.W.Frag) (w : World) (neg : Bool) : R2 := fun y x H Q => ∃ a es k b, x = .ref a ∧ y = .ref b ∧ H a = some (.ext (dictAt w a es)) ∧ XD K H a es ∧ KeyV K H k y ∧ k.depth ≤ 8 ∧ Q (.bl (if neg = true then !(atKey es k).isSome else (atKey es k).isSome)) H
section
variable {X : Cx}
end
section
variable {G : Gx} {W : WX} {pr : Addr → Prop} {io : List (Nat × V)} {σ : L2.St} {s s1 : Sx} {ios : List Nat} {Q : VK} {X : Cx} {a b c e : Expr} {pos p p2 : Pos} {x : Str} {ga gb gc : Ev} {k : Nat}
def opInX (neg : Bool) (t u : Tm) : Option Tm := match u with
  | .v _ (.dT ks _) => match frz t with
    | some kd => if keyOk kd = true then some (.v .F (.bl (if neg = true then !hasK ks kd else hasK ks kd))) else none
    | none => none
  | _ => none
def eInX : Ev → Ev → Ev := eOp2 (opInX false)
def eNotInX : Ev → Ev → Ev := eOp2 (opInX true)
/-! for k in d: the name is empty, the dict locked, while the loop goes -/
def sForK (i : Nat) (tgt : Tg) (body : Sm) : Sm := fun ρ => match ρ[i]? with
  | some (some (.v .O (.dT ks xs))) => match forL tgt body (ks.map (Tm.v .F)) (ρ.set i none) with
    | .nx ρ' => match ρ'[i]? with
      | some none => .nx (ρ'.set i (some (.v .O (.dT ks xs))))
      | _ => .no
    | _ => .no
  | _ => .no
end
end PV

namespace PV
open PySem PySem.Spec L2
/-! {k: v} -/
def tDX1 (K : PySem.W.Frag) (w : World) (tk tv : TE) : TE := fun σ H Q => ∀ p, H p = none → (p == sysModules) = false → tPairs [(tk, tv)] σ (upd H p (.ext (dictAt w p []))) fun ps H2 => H2 p = some (.ext (dictAt w p [])) ∧ ∃ y v k b, ps = [(y, v)] ∧ y = .ref b ∧ KeyV K H2 k y ∧ k.depth ≤ 8 ∧
  ∀ u, RelV v u → Q (.ref p) (upd H2 p (.ext (dictAt w p [(k, b, u)])))
def eDX1 (gk gv : Ev) : Ev := fun ρ => (gk ρ).bind fun t ρ1 => (gv ρ1).bind fun u ρ2 => match (derT ρ2 t).bind frz, frz u with
  | some kd, some d => if keyOk kd = true ∧ flat d = true then .ok (.v .O (.dT [kd] [d])) ρ2 else .no
  | _, _ => .no
section
variable {G : Gx} {W : WX} {pr : Addr → Prop} {io : List (Nat × V)} {σ : L2.St} {s s1 : Sx} {ios : List Nat} {Q : VK} {X : Cx} {a b c e : Expr} {pos p p2 : Pos} {x : Str} {ga gb gc : Ev} {k : Nat}
end
end PV

namespace PV
open PySem PySem.Spec L2
/-! [.. for k in d ..]: the name is empty, the dict locked, while the block goes -/
def itKs (ks : List D) : Iv := fun ρ => .ok (ks.map (Tm.v .F)) ρ
def eCompK (i : Nat) (vs : List Nat) (tgt : Tg) (test elt : Ev) : Ev := fun ρ => match ρ[i]? with
  | some (some (.v .O (.dT ks xs))) => match eComp (itKs ks) vs tgt test elt (ρ.set i none) with
    | .ok (.v .O (.lst ds)) ρ' => match ρ'[i]? with
      | some none => .ok (.v .O (.lst ds)) (ρ'.set i (some (.v .O (.dT ks xs))))
      | _ => .no
    | _ => .no
  | _ => .no
section
variable {G : Gx} {W : WX} {pr : Addr → Prop} {io : List (Nat × V)} {σ : L2.St} {s s1 : Sx} {ios : List Nat} {Q : VK} {X : Cx} {a b c e : Expr} {pos p p2 : Pos} {x : Str} {ga gb gc : Ev} {k : Nat}
variable {elt : Expr} {ifs : List Expr} {scope : Scope} {own : List (Str × Nat)} {spos py : Pos} {tgt : Tg} {test gel : Ev} {tv : List Nat} {tg : Expr}
end
end PV

namespace PV
open PySem PySem.Spec L2
/-! xs.remove(x) over data -/
section
variable {prog : Program} {w : World} {A : Around} {s : Shared} {R : Result → Shared → Prop}
end
def rRemP (K : PySem.W.Frag) : V → List V → Hp → VK → Prop := fun x xs H Q => ∃ (l : Addr) (vs : List V) (y : V) (d : PyData) (ds : List PyData) (j : Nat), x = .ref l ∧ xs = [y] ∧ H l = some (.lst vs) ∧ Dp K H y d ∧ DpAll K H vs ds ∧ SeqAt.shaped d = true ∧ (∀ q ∈ ds, SeqAt.shaped q = true) ∧
  (∃ q, ds[j]? = some q ∧ PyData.eqv q d = true) ∧ (∀ m q, m < j → ds[m]? = some q → PyData.eqv q d = false) ∧ Q .non (upd H l (.lst (vs.eraseIdx j)))
end PV

namespace PV
open PySem PySem.Spec L2
section
variable {G : Gx} {W : WX} {pr : Addr → Prop} {io : List (Nat × V)} {σ : L2.St} {s s1 : Sx} {ios : List Nat} {Q : VK} {X : Cx} {a b c e o : Expr} {es : List Expr} {pos p pos2 apos : Pos} {x m : Str} {ga gb gc gi g0 : Ev} {gs gk : Ss → OuL}
def opRemP : List D → List D → Option (D × List D) := fun xs ds => match ds with
  | [k] => match toPy k, toPys xs with
    | some d, some qs => if SeqAt.shaped d = true ∧ qs.all SeqAt.shaped = true then (qs.findIdx? fun q => PyData.eqv q d).map fun j => (.non, xs.eraseIdx j) else none
    | _, _ => none
  | _ => none
/-! a, b = xs: a list -/
def gTupL (n : Nat) (t : TGs) : TG := fun v σ H Q => ∃ a xs, v = V.ref a ∧ H a = some (.lst xs) ∧ xs.length = n ∧ t xs σ H Q
def tgTupL (gs : Tgs) : Tg := fun t ρ => match t with
  | .v .O (.lst xs) => gs (xs.map (Tm.v .F)) ρ
  | _ => none
end
end PV

namespace PV
open PySem PySem.Spec L2
/-! raise C(e); try: .. except C as n: x = n.f -/
def sRaise (c : Nat) (g : Ev) : Sm := fun ρ => (g ρ).toF fun t ρ1 => match t with
  | .v .F d => .ex ⟨c, [d]⟩ ρ1
  | _ => .no
section
variable {G : Gx} {W : WX} {pr : Addr → Prop} {io : List (Nat × V)} {σ : L2.St} {s s1 : Sx} {ios : List Nat} {X : Cx} {D : Ends}
/-- the end of raise -/
theorem raise_end {c : Nat} {f : Str} {ga : Ev} {C : Addr} (hC : G.ca c = C) (hn : G.cn c = [f]) {H : Hp} (q : tSv G W ios (sRaise c ga) D σ H) :
    tEv G W ios ga σ H fun v H1 => ∃ v', [v] = [v'] ∧ ∀ d, H1 d = none → W (.ref C) (some d) σ (upd H1 d (.xd [(f, v')])) := by
  obtain ⟨pr, io, s, rfl, hi, r, q⟩ := of_tSv q
  refine tEv_of hi r (FlP.toF q fun t v s1 ot r1 x1 p1 f1 q1 => ?_)
  cases t with
  | v k d =>
    cases k with
    | F =>
      dsimp only at q1
      refine ⟨v, rfl, fun dx hdx => ?_⟩
      have hx : TmR G s1.H s1.fz pr (.v .F d) v ot := p1.rel
      simp only [TmR] at hx
      have xn : Ext s1 (s1.new dx (.xd [(f, v)])) := Ext.new hdx _
      refine q1 (.ref C) (some dx) σ (s1.new dx (.xd [(f, v)])) rfl (r1.new hdx _) (x1.trans xn) ⟨by rw [hC], dx, [v], rfl, ?_, by rw [hn]; rfl, ?_⟩
      · show upd _ _ _ _ = _
        rw [upd_same, hn]; rfl
      · simp only [Reps]
        exact ⟨v, [], rfl, Rep.keep xn.fz (fun a o p e => xn.keep a o e fun z => (r1.sep a z).1 p) xn.tk _ _ hx.2, rfl⟩
    | B => exact q1.elim
    | O => exact q1.elim
  | tp ts => exact q1.elim
  | loc i => exact q1.elim
  | ls ts => exact q1.elim
  | ob c ts => exact q1.elim
end
end PV

namespace L2N
open L2 PySem PySem.Spec PyProof.Rows
/-- what the clauses (each with its name's slot) wish of an exception of the body -/
def wManyAs (K : PySem.W.Frag) (Wout : WX) (D : Ends) : List (Value × Nat × (Addr → Value → Option Addr → TS)) → WX
  | [] => Wout
  | (c, i, ts) :: r => fun cls d σ H => ∃ b, PySem.W.exmOne K cls c = some b ∧
      (b = true → ∀ a, H a = none → ts a cls d { nx := fun σ' H' => D.nx (σ'.set i none) H', rt := D.rt, bk := fun σ' H' => D.bk (σ'.set i none) H', ct := fun σ' H' => D.ct (σ'.set i none) H' } (σ.set i (some (.ref a))) H) ∧ (b = false → wManyAs K Wout D r cls d σ H)
inductive HdsAs (X : Cx) : List ExceptHandler → List (Value × Nat × (Addr → Value → Option Addr → TS)) → Prop
  | nil : HdsAs X [] []
  | cons {x n : Str} {c : Value} {i : Nat} {ts : Addr → Value → Option Addr → TS} {b₀ : Stmt} {suite : List Stmt} {np pos' : Pos} {hds : List ExceptHandler} {l : List (Value × Nat × (Addr → Value → Option Addr → TS))} (hc : Names X x c) (hi : X.N[i]? = some n) (hln : X.env.kindOf n = some .local)
      (hsu : ∀ (a : Addr) (oe : Obj) (cls : Value) (d : Option Addr) (pn : List (Addr × Obj)), Zn cls d oe → (∃ vs, oe.data = .fields vs) → PSs (X.suite a ((a, oe) :: pn)) (b₀ :: suite) (ts a cls d)) (r : HdsAs X hds l) :
      HdsAs X (.ExceptHandler (some (.Name x np)) (some n) (b₀ :: suite) pos' :: hds) ((c, i, ts) :: l)
section
variable {X : Cx} {body : List Stmt} {h₀ : ExceptHandler} {hds : List ExceptHandler} {l : List (Value × Nat × (Addr → Value → Option Addr → TS))} {pos : Pos} {tb : WX → TS} {Wout : WX}
end
/-- X() of an own class without __init__ -/
theorem pmk_own0 {X : Cx} {C : Addr} {bmB : List Value} {B newId initId : String} {x : Str} {p pos : Pos} (F : ExcBaseFacts B newId initId bmB) (q : PySem.W.excIn X.K C bmB newId = true) (gC : X.mg x = some (.ref C)) (kC : PySem.W.keepIn X.K (.ref C) = true) (r : Raises X (.ref C)) (hg : Gl X x)
    (hdb : (x == ("__debug__" : Str)) = false := by decide) : PMk X (.Call (.Name x p) [] [] pos) (fun _ H Q => Q (.ref C) none H) := by
  intro pins s σ H Q I h
  refine wpAny_Call_Name_kw (ld_glob I hg gC ?_ hdb)
  refine PySem.W.callWith_K0 I.kIn kC ?_
  show wpAny _ _ (call (.ref C) []) _ _ _
  obtain ⟨bm, N, nm, qn, bs, hdct, sn, sub, ab, col, dd, k0, k1, k2, k3, k5, mN, hC, hN, hni, T⟩ := exc_obj I.kIn q
  refine wpAny_call_exc_subT F T hC hN hni (fun h' e hm => ?_) (Nat.zero_le _)
  exact mk_of I hm r h (I.hok.gone hm.new)
/-- what «except c» says of an error of the class cls -/
theorem exm_of {K : PySem.W.Frag} {S C : Addr} {b : Bool} (h1 : PySem.W.subIn K (.ref C) (.type "BaseException") = some true) (h2 : PySem.W.isClsIn K C = true) (h3 : PySem.W.typeIn K (.ref C) = some (.type "type")) (h4 : PySem.W.subIn K (.ref S) (.ref C) = some b) :
    PySem.W.exmOne K (.ref S) (.ref C) = some b := by
  have e1 : (PySem.W.subIn K (.ref C) (.type "BaseException") == some true) = true := by rw [h1] <;> rfl
  have e2 : ((PySem.W.clsIn K C).isSome && PySem.W.typeIn K (.ref C) == some (.type "type")) = true := by
    have h2' : (PySem.W.clsIn K C).isSome = true := h2
    rw [h2', h3] <;> rfl
  show (if (PySem.W.subIn K (.ref C) (.type "BaseException") == some true) = true then (if ((PySem.W.clsIn K C).isSome && PySem.W.typeIn K (.ref C) == some (.type "type")) = true then PySem.W.subIn K (.ref S) (.ref C) else none) else none) = some b
  rw [if_pos e1, if_pos e2]
  exact h4
end L2N

namespace PV
open PySem PySem.Spec L2
/-! try with clauses «except C as n: suite», each suite one assignment; raise C() -/
structure Hd where
  c : Nat
  j : Nat
  k : List D → Ss → Fl
def sRaise0 (c : Nat) : Sm := fun ρ => .ex ⟨c, []⟩ ρ
def sTryH (kn : List Nat) (hs : List Hd) (g : Sm) : Sm := fun ρ => match g ρ with
  | .ex e ρ1 => if e.c ∈ kn then match hs.find? (fun h => e.c == h.c) with
      | some h => if h.j < ρ1.length then h.k e.ds (ρ1.set h.j none) else .no
      | none => .ex e ρ1
    else .no
  | o => o
/-- x = d -/
def hkC (x : Nat) (d : D) : List D → Ss → Fl := fun _ ρ => if x < ρ.length then .nx (ρ.set x (some (.v .F d))) else .no
/-- x = n.f -/
def hkF (x : Nat) : List D → Ss → Fl := fun ds ρ => match ds with
  | [d] => if x < ρ.length then .nx (ρ.set x (some (.v .F d))) else .no
  | _ => .no
/-- x, y = d, n.f -/
def hkP (x y : Nat) (d0 : D) : List D → Ss → Fl := fun ds ρ => match ds with
  | [d] => if x < ρ.length ∧ y < ρ.length then .nx ((ρ.set x (some (.v .F d0))).set y (some (.v .F d))) else .no
  | _ => .no
section
variable {G : Gx} {W : WX} {ios : List Nat} {X : Cx}
/-- the suite ts does what k says -/
def HdR (G : Gx) (W : WX) (ios : List Nat) (h : Hd) (ts : Addr → Value → Option Addr → TS) : Prop :=
  ∀ (pr : Addr → Prop) (io : List (Nat × V)) (s : Sx) (σ : L2.St) (a : Addr) (cls : Value) (d : Option Addr) (ds : List D) (D : Ends), io.map Prod.fst = ios → h.j < σ.length → SR G pr io (σ.set h.j none) s → s.ρ[h.j]? = some none → ErR G s.H s.fz ⟨h.c, ds⟩ cls d → FlP G W pr io s (h.k ds s.ρ) D →
    ts a cls d { nx := fun σ' H' => D.nx (σ'.set h.j none) H', rt := D.rt, bk := fun σ' H' => D.bk (σ'.set h.j none) H', ct := fun σ' H' => D.ct (σ'.set h.j none) H' } (σ.set h.j (some (.ref a))) s.H
end
/-- clauses and what they do -/
inductive HdsR (G : Gx) (W : WX) (ios : List Nat) (ok : Nat → Nat → Bool → Prop) : List Hd → List (Value × Nat × (Addr → Value → Option Addr → TS)) → Prop
  | nil : HdsR G W ios ok [] []
  | cons {h : Hd} {ts : Addr → Value → Option Addr → TS} {hs : List Hd} {l : List (Value × Nat × (Addr → Value → Option Addr → TS))} (hj : h.j ∉ ios) (r : HdR G W ios h ts) (rs : HdsR G W ios ok hs l) : HdsR G W ios ok (h :: hs) ((.ref (G.ca h.c), h.j, ts) :: l)
section
variable {G : Gx} {Wout : WX} {ios : List Nat} {X : Cx} {D : Ends} {σ : L2.St}
theorem raise0_end {c : Nat} {C : Addr} {W : WX} (hC : G.ca c = C) {H : Hp} (q : tSv G W ios (sRaise0 c) D σ H) : W (.ref C) none σ H := by
  obtain ⟨pr, io, s, rfl, hi, r, q⟩ := of_tSv q
  exact q _ _ σ s rfl r (Ext.refl s) ⟨by rw [hC], rfl⟩
theorem s_raise0 {c : Nat} {C : Addr} {W : WX} {bmB : List Value} {B newId initId : String} {x : Str} {p pos pos2 : Pos} (hc : X.calm = true) (F : ExcBaseFacts B newId initId bmB) (qx : PySem.W.excIn X.K C bmB newId = true) (gC : X.mg x = some (.ref C)) (kC : PySem.W.keepIn X.K (.ref C) = true) (rc : Raises X (.ref C)) (tk : L2N.Takes X W) (hC : G.ca c = C) (hg : Gl X x := by rfl)
    (hdb : (x == ("__debug__" : Str)) = false := by decide) : PSv X G W ios (.Raise (some (.Call (.Name x p) [] [] pos)) none pos2) (sRaise0 c) :=
  ps_imp (L2N.ps_raise hc tk (L2N.pmk_own0 F qx gC kC rc hg hdb)) fun D σ H q => raise0_end hC q
end
/-- the clauses hds do what hs say -/
def HdsV (X : Cx) (G : Gx) (W : WX) (ios : List Nat) (hs : List Hd) (hds : List ExceptHandler) : Prop := ∃ l, HdsR G W ios (fun _ _ _ => True) hs l ∧ L2N.HdsAs X hds l
section
variable {G : Gx} {W : WX} {ios : List Nat} {X : Cx}
end
end PV

namespace HotX
open PySem PySem.Spec PyProof.Rows
section
variable {prog : Program} {w : World} {A : Around} {E : Value → Shared → Prop} {s : Shared}
end
end HotX
namespace L2N
open L2 PySem PySem.Spec PyProof.Rows
end L2N

namespace L2
open PySem PySem.Spec PyProof.Rows
/-- min(a, b, c) -/
def min3 (i j k : Int) : Int := if j < i then (if k < j then k else j) else (if k < i then k else i)
section
variable {X : Cx}
/-- xs[::e] with e 1 or -1 -/
def rStep (K : PySem.W.Frag) : V → V → Hp → VK → Prop := fun x y H Q => ∃ a xs i, x = .ref a ∧ y = .int i ∧ SqL K H a xs ∧
  ((i = 1 ∧ ∀ p, H p = none → Q (.ref p) (upd H p (.lst xs))) ∨ (i = -1 ∧ ∀ p, H p = none → Q (.ref p) (upd H p (.lst xs.reverse))))
theorem pe_stepL {e st : Expr} {te tst : TE} {p3 pos : Pos} (he : PE X e te) (hst : PE X st tst) :
    PE X (.Subscript e (.Slice none none (some st) p3) pos) (fun σ H Q => te σ H fun x H1 => tst σ H1 fun y H2 => rStep X.K x y H2 Q) := by
  refine ⟨fun pins s σ H Q I h => ?_⟩
  refine Subscript_ (thn (he.run pins s σ H _ I h) fun v s1 ⟨x, H1, I1, r1, q1⟩ => ?_)
  refine wpAny_Slice (thn (po_none.run pins s1 σ H1 (fun o H2 => o = none ∧ H2 = H1) I1 ⟨rfl, rfl⟩) fun vl s2 ⟨l, H2, I2, pl, el, e2⟩ => ?_)
  subst el e2
  refine thn (po_none.run pins s2 σ H2 (fun o H3 => o = none ∧ H3 = H2) I2 ⟨rfl, rfl⟩) fun vu s3 ⟨u, H3, I3, pu, eu, e3⟩ => ?_
  subst eu e3
  rw [evalPart_some]
  refine thn (hst.run pins s3 σ H3 _ I3 q1) fun vs s4 ⟨y, H4, I4, r4, q4⟩ => ?_
  obtain ⟨a, xs, i, ex, ey, hx, q⟩ := q4
  subst ex
  subst ey
  cases r1
  obtain ⟨t4, rfl⟩ := r4
  have ps : IsPart (.int i t4) (some i) := .int i t4
  have I5 : Inv X pins σ H4 { s4 with heap := s4.heap.push { cls := .type "slice", data := .fields #[vl, vu, .int i t4] } } := I4.kept (t' := s4.toks) fun b ob q => Heap.get?_push_of_some _ q
  obtain ⟨its, r, ht, hz⟩ := I5.list hx
  have hlen := r.length
  show wpAny (model X.prog X.w) X.A (subscriptTail e (.Slice none none (some st) p3) (.ref a) (.ref s4.heap.objs.size)) (EP X pins σ Q) X.xe { s4 with heap := s4.heap.push { cls := .type "slice", data := .fields #[vl, vu, .int i t4] } }
  refine tail_any (ops := [.ref a, .ref s4.heap.objs.size]) ht.isList.typeIs (PySem.slot_list_getitem.lookup) ?_ (by with_unfolding_all rfl)
  rcases q with ⟨rfl, q⟩ | ⟨rfl, q⟩
  · refine wpAny_getItem_list_slice ht.isList (Heap.IsSliceOf.new _ vl vu _) pl pu ps (by decide) ?_ (by rw [List.size_toArray]; omega)
    rw [show slicePick its.toArray none none (some 1) = slicePick its.toArray none none none from rfl, slicePick_cut]
    have e1 : ((its.drop (HT.sIx its.length 0 none)).take (HT.sIx its.length its.length none - HT.sIx its.length 0 none)) = its := by
      show ((its.drop 0).take (its.length - 0)) = its
      simp
    rw [e1]
    refine ⟨.ref _, _, I5.laid (t' := s4.toks) (o := .lst xs) (fun b ob q => Heap.get?_push_of_some _ q) (Nat.le_refl _) ?_, rfl, q _ (I5.hok.fresh (Nat.le_refl _))⟩
    exact ⟨hz, _, 0, r, Heap.get?_push_size _ rfl⟩
  · refine wpAny_getItem_list_slice ht.isList (Heap.IsSliceOf.new _ vl vu _) pl pu ps (by decide) ?_ (by rw [List.size_toArray]; omega)
    rw [PySem.W.krv_pick]
    refine ⟨.ref _, _, I5.laid (t' := s4.toks) (o := .lst xs.reverse) (fun b ob q => Heap.get?_push_of_some _ q) (Nat.le_refl _) ?_, rfl, q _ (I5.hok.fresh (Nat.le_refl _))⟩
    exact ⟨by rw [List.length_reverse]; exact hz, _, 0, r.reverse, Heap.get?_push_size _ rfl⟩
end
end L2
namespace PV
open PySem PySem.Spec L2
def eMin3 (gs : Ss → OuL) : Ev := fun ρ => match gs ρ with
  | .ok ts ρ1 => match ts with
    | [.v .F (.int i), .v .F (.int j), .v .F (.int k)] => .ok (.v .F (.int (min3 i j k))) ρ1
    | _ => .no
  | .ex e ρ1 => .ex e ρ1
  | .no => .no
def opStep (t u : Tm) : Option Tm := match t, u with
  | .v k (.lst xs), .v _ (.int i) => if i = 1 then (elk k xs).map fun ys => .v .O (.lst ys) else if i = -1 then (elk k xs).map fun ys => .v .O (.lst ys.reverse) else none
  | _, _ => none
def eStep : Ev → Ev → Ev := eOp2 opStep
/-- a dict of texts by texts -/
def eDctT (ps : List (Str × Str)) : Ev := fun ρ => .ok (.v .O (.dK (ps.map fun p => Sum.inr p.1) (ps.map fun p => .str p.2))) ρ
def lookD : List Key → List D → Key → Option D
  | k :: ks, x :: xs, w => if k = w then some x else lookD ks xs w
  | _, _, _ => none
def opIdxK (t u : Tm) : Option Tm := match t, u with
  | .v _ (.dK ks xs), .v _ (.str w) => match lookD ks xs (.inr w) with
    | some (.str z) => some (.v .F (.str z))
    | _ => none
  | _, _ => none
def eIdxK : Ev → Ev → Ev := eOp2 opIdxK
section
variable {G : Gx} {W : WX} {pr : Addr → Prop} {io : List (Nat × V)} {σ : L2.St} {s s1 : Sx} {ios : List Nat} {Q : VK} {X : Cx} {a b c e : Expr} {pos p p2 p3 : Pos} {ga gb gc : Ev} {k : Nat}
theorem v_step (hK : G.K = X.K) (ha : PEv X G W ios a ga) (hb : PEv X G W ios b gb) : PEv X G W ios (.Subscript a (.Slice none none (some b) p3) pos) (eStep ga gb) := pe_imp (pe_stepL ha hb) fun σ H Q q => by
  refine op2_end (r := rStep X.K) ?_ q
  intro pr io σ s x y tx ty t ox oy Q hr hx hy e q
  cases tx <;> cases ty <;> simp only [opStep, reduceCtorEq] at e
  rename_i k d l d2
  cases d <;> cases d2 <;> simp only [reduceCtorEq] at e
  rename_i xs i
  have hi : y = .int i := by
    cases l
    · simp only [TmR, Rep] at hy; exact hy.2
    · simp only [TmR, Rep] at hy; exact hy.2
    · simp only [TmR, RepO, Rep] at hy; exact hy.2
  subst hi
  split at e
  · rename_i h1
    obtain ⟨ys, e9, rfl⟩ := Option.map_eq_some_iff.mp e
    obtain ⟨a, vs, rfl, h2, h3⟩ := lst_items hx e9
    exact ⟨a, vs, i, rfl, rfl, .of h2, .inl ⟨h1, fun p hp => q.lst hr h3 hp⟩⟩
  · split at e
    · rename_i h1
      obtain ⟨ys, e9, rfl⟩ := Option.map_eq_some_iff.mp e
      obtain ⟨a, vs, rfl, h2, h3⟩ := lst_items hx e9
      exact ⟨a, vs, i, rfl, rfl, .of h2, .inr ⟨h1, fun p hp => q.lst hr h3.rev hp⟩⟩
    · cases e
theorem OuP.dK {ks : List Key} {ds : List D} {vs : List V} (h : OuP G W pr io σ s (.ok (.v .O (.dK ks ds)) s.ρ) Q) (r : SR G pr io σ s) (hl : ks.length = vs.length) (hd : Reps G s.H s.fz ds vs) {p : Addr} (hp : s.H p = none) : Q (.ref p) (upd s.H p (.dK (ks.zip vs))) := by
  have f := r.fresh hp
  refine h _ (s.new p (.dK (ks.zip vs))) [p] rfl (r.new hp _) (Ext.new hp _) ⟨?_, by simp, fun a ha => ?_⟩ fun a ha => ?_
  · show TmR _ _ _ _ _ _ _
    simp only [TmR, RepO]
    exact ⟨p, vs, rfl, rfl, upd_same, hl, Reps.keep (fun _ z => z) (fun a o _ e => by show upd _ _ _ _ = _; rw [upd_ne (ne_of_none e hp)]; exact e) (tk_new hp _) _ _ hd⟩
  · rw [List.mem_singleton] at ha; subst ha; exact f
  · rw [List.mem_singleton] at ha; subst ha; exact .inr hp
end
end PV

namespace SrtR
open PySem PyProof.Rows Srt SrtO
section
variable {prog : Program} {w : World} {A : Around} {E : Value → Shared → Prop} {s : Shared}
theorem sorted_ordKT {l : Addr} {vs : List Value} {b : Bool} {kw : List (Str × Value)} {ltv : Value → Value → Bool} {Q : Value → Shared → Prop} (hk : ∀ a, Builtin.«list.sort» ⟨[.ref a], kw⟩ = Builtin.«list.sort» ⟨[.ref a], [(Str.ofString "reverse", .bool b)]⟩)
    (ha1 : argsOk "sorted" ⟨[.ref l], kw⟩) (ha2 : ∀ a, argsOk "list.sort" ⟨[a], kw⟩) (O : Swo ltv) (hl : IsTup s.heap l vs.toArray) (hz : vs.length ≤ sizeLine)
    (hS : 2 ≤ vs.length → ∀ (h₁ : Heap) (a : Addr), h₁.get? a = some (seqObj "list" vs.toArray 0) → (∀ b o, s.heap.get? b = some o → b ≠ a ∧ h₁.get? b = some o) → SortableO prog w A.in1.in1 { s with heap := h₁ } a vs ltv)
    (h : ∀ out : List Value, Srtd ltv out → Stb ltv out (if b = true then vs.reverse else vs) → Q (.ref (s.heap.objs.size + 1)) { s with heap := sortedAll s.heap vs (if b = true then out.toArray.reverse else out.toArray) }) :
    wpAny (model prog w) A (call (.builtin "sorted") [.ref l] kw) Q E s := by
  refine call_function_entry_kw kind_sorted plain_sorted entry_sorted ha1 ?_
  unfold Builtin.«sorted»
  refine wpAny_bind (m := checkCount "sorted" 1 1 _) (wpAny_pure ?_)
  refine wpAny_bind (PV.collectT hl hz ?_)
  refine wpAny_bind (wpAny_newList ?_ hz)
  have hsz : ((s.heap.push (seqObj "list" #[] 0)).update s.heap.objs.size (Obj.mapSeq (· ++ vs.toArray))).objs.size = s.heap.objs.size + 1 := by
    rw [Heap.size_update, size_push']
  have hoL : (((s.heap.push (seqObj "list" #[] 0)).update s.heap.objs.size (Obj.mapSeq (· ++ vs.toArray))).push (seqObj "list" vs.toArray 0)).get? (s.heap.objs.size + 1) = some (seqObj "list" vs.toArray 0) := by
    rw [← hsz]; exact Heap.get?_push_size _ rfl
  have keep : ∀ b o, s.heap.get? b = some o → b ≠ s.heap.objs.size + 1 ∧ (((s.heap.push (seqObj "list" #[] 0)).update s.heap.objs.size (Obj.mapSeq (· ++ vs.toArray))).push (seqObj "list" vs.toArray 0)).get? b = some o := fun b o q => by
    have hlt : b < s.heap.objs.size := Heap.lt_size q
    refine ⟨Nat.ne_of_lt (Nat.lt_succ_of_lt hlt), Heap.get?_push_of_some _ ?_⟩
    rw [Heap.get?_update_ne _ _ _ _ (Nat.ne_of_lt hlt)]
    exact Heap.get?_push_of_some _ q
  show wpAny _ _ _ _ _ { s with heap := ((s.heap.push (seqObj "list" #[] 0)).update s.heap.objs.size (Obj.mapSeq (· ++ vs.toArray))).push (seqObj "list" vs.toArray 0) }
  rw [hsz]
  refine wpAny_bind (wpAny_holding (wpAny_call_entry_kw slot_list_sort ⟨_, hoL, rfl⟩ entry_list_sort ?_ (ha2 _)))
  rw [hk]
  refine list_sort_ordR O hoL hz (fun h2 => hS h2 _ _ hoL keep) fun out hs hb => ⟨_, rfl, ?_⟩
  exact wpAny_pure ⟨_, rfl, h out hs hb⟩
end
end SrtR
namespace L2
open PySem PySem.Spec PyProof.Rows
theorem sorted_runT {X : Cx} {b : Bool} {kw : List (Str × Value)} {pins : List (Addr × Obj)} {s : Shared} {σ : St} {H : Hp} {a : Addr} {ns : List Int} {Q : VK} (I : Inv X pins σ H s) (hs : SqT X.K H a (ns.map V.int))
    (hk : ∀ a, Builtin.«list.sort» ⟨[.ref a], kw⟩ = Builtin.«list.sort» ⟨[.ref a], [(Str.ofString "reverse", .bool b)]⟩) (ha1 : argsOk "sorted" ⟨[.ref a], kw⟩) (ha2 : ∀ a, argsOk "list.sort" ⟨[a], kw⟩)
    (q : ∀ (ns' : List Int) (p : Addr), ns'.Perm ns → OrdB b ns' → H p = none → Q (.ref p) (upd H p (.lst (ns'.map V.int)))) : wpAny (model X.prog X.w) X.A (call (.builtin "sorted") [.ref a] kw) (EP X pins σ Q) X.xe s := by
  obtain ⟨its, rv, hl, hz⟩ := I.tuple hs
  have hi := rv.ints
  refine SrtR.sorted_ordKT hk ha1 ha2 SrtO.swo_int hl (by rw [← rv.length]; exact hz) (fun h2 h₁ a' _ _ => SrtO.ints_sortable hi h2) fun out h1 h2 => ?_
  obtain ⟨ns', k1, k2, k3⟩ := SrtR.ints_outR hi h1 h2
  obtain ⟨ep, he'⟩ := PyProof.Rows.sortedAll_at s.heap its (if b = true then out.toArray.reverse else out.toArray)
  have hlen : (ns'.map V.int).length ≤ sizeLine := by
    rw [List.length_map, k2.length_eq]
    rw [List.length_map] at hz
    exact hz
  have e0 : ((if b = true then out.toArray.reverse else out.toArray).toList).toArray = (if b = true then out.toArray.reverse else out.toArray) := by rw [Array.toArray_toList]
  exact ⟨.ref _, upd H (s.heap.objs.size + 1) (.lst (ns'.map V.int)), I.laid (t' := s.toks) (fun _ _ => PyProof.Rows.sortedAll_old) (Nat.le_succ _) ⟨hlen, _, ep, vals_of_ints k1, by rw [e0]; exact he'⟩, rfl, q _ _ k2 k3 (I.hok.fresh (Nat.le_succ _))⟩
def rSortedKwS (K : PySem.W.Frag) (b : Bool) (zs0 : List V) : List V → List V → Hp → VK → Prop := fun vs zs H Q => ∃ (a : Addr) (ns : List Int), vs = [V.ref a] ∧ zs = zs0 ∧ (SqL K H a (ns.map V.int) ∨ SqT K H a (ns.map V.int)) ∧
  ∀ (ns' : List Int) (p : Addr), ns'.Perm ns → OrdB b ns' → H p = none → Q (.ref p) (upd H p (.lst (ns'.map V.int)))
theorem cr_sortedRevS {X : Cx} {b : Bool} : CallRK X (.builtin "sorted") [Str.ofString "reverse"] (rSortedKwS X.K b [.bl b]) := by
  intro pins s σ H vs zs us ws Q I r rz h
  obtain ⟨a, ns, rfl, rfl, hs, q⟩ := h
  obtain rfl := Vals.ref1 r
  obtain ⟨w1, rfl, e1⟩ := vals1 rz
  obtain rfl : w1 = Value.bool b := e1
  rcases hs with hs | hs
  · exact sorted_run I hs (fun _ => rfl) (PyProof.Rows.args_sorted_rev _ _) (fun _ => PyProof.Rows.args_list_sort_rev _ _) q
  · exact sorted_runT I hs (fun _ => rfl) (PyProof.Rows.args_sorted_rev _ _) (fun _ => PyProof.Rows.args_list_sort_rev _ _) q
end L2
namespace PV
open PySem PySem.Spec L2
/-- the falling list, of a list or a tuple -/
def opSortR2 (t : Tm) : Option Tm := match toD t with
  | .lst xs => (intsD xs).map fun ns => .v .O (.lst ((isort ns).reverse.map .int))
  | .tup xs => (intsD xs).map fun ns => .v .O (.lst ((isort ns).reverse.map .int))
  | _ => none
def eSortR2 : Ev → Ev := eOp1 opSortR2
section
variable {G : Gx} {W : WX} {ios : List Nat} {X : Cx} {a : Expr} {pos p : Pos} {ga : Ev}
theorem v_sortR2 {kp kp2 : Pos} (hm : X.mg "sorted" = none) (ha : PEv X G W ios a ga) (hg : Gl X "sorted" := by rfl) (hs : starEach [a] X.env = (false, eval a X.env) :: starEach [] X.env := by rfl)
    (he : backTo pos (starEach [a] X.env) = (false, eval a X.env) :: backTo pos (starEach [] X.env) := by rfl) (hpl : (backTo pos (starEach [a] X.env)).any (·.1) = false := by rfl)
    (hall : (backToKw pos (keywordEach [⟨some (Str.ofString "reverse"), .Constant (.bool true) 0 kp, kp2⟩] X.env)).all (·.1.isSome) = true := by rfl) (hnone : (backToKw pos (keywordEach [⟨some (Str.ofString "reverse"), .Constant (.bool true) 0 kp, kp2⟩] X.env)).any (·.1.isNone) = false := by rfl) (hks : (backToKw pos (keywordEach [⟨some (Str.ofString "reverse"), .Constant (.bool true) 0 kp, kp2⟩] X.env)).filterMap (·.1) = [Str.ofString "reverse"] := by rfl) :
    PEv X G W ios (.Call (.Name "sorted" p) [a] [⟨some (Str.ofString "reverse"), .Constant (.bool true) 0 kp, kp2⟩] pos) (eSortR2 ga) :=
  pe_imp (pe_callBK (cr_sortedRevS (b := true)) hg hm (by decide +kernel) (pa_cons ha pa_nil hs) (pk_cons (pe_bl (b := true)) pk_nil) (by decide) (by decide) he hpl hall hnone hks) fun σ H Q q => by
    show tEv G W ios ga σ H fun x H1 => rSortedKwS X.K true [.bl true] [x] [.bl true] H1 Q
    refine op1_end (r := fun x H Q => rSortedKwS X.K true [.bl true] [x] [.bl true] H Q) ?_ rfl q
    intro pr io σ s x tx t ox Q hr hx e q
    have hd := TmR.toD _ _ _ hx
    unfold opSortR2 at e
    split at e
    · rename_i xs hxs
      rw [hxs] at hd
      simp only [Rep] at hd
      obtain ⟨a, vs, rfl, _, h1, h2⟩ := hd
      simp only [Option.map_eq_some_iff] at e
      obtain ⟨ns, e, rfl⟩ := e
      rw [intsD_eq e] at h2
      rw [reps_ints h2] at h1
      exact ⟨a, ns, rfl, rfl, .inl (.of h1), fun ns' p hp hu hn => by rw [isort_ofR hp hu]; exact q.lst hr (reps_of_ints _) hn⟩
    · rename_i xs hxs
      rw [hxs] at hd
      simp only [Rep] at hd
      obtain ⟨a, vs, rfl, h1, h2⟩ := hd
      simp only [Option.map_eq_some_iff] at e
      obtain ⟨ns, e, rfl⟩ := e
      rw [intsD_eq e] at h2
      rw [reps_ints h2] at h1
      exact ⟨a, ns, rfl, rfl, .inr (.of h1), fun ns' p hp hu hn => by rw [isort_ofR hp hu]; exact q.lst hr (reps_of_ints _) hn⟩
    · cases e
end
end PV

/-! repr of data of mixed kinds, dicts among them -/
namespace PV
open PySem PySem.Spec L2
mutual
/-- v reads as d; no dict in it is the one of all modules -/
inductive RdE (h₀ : Heap) : Value → PyData → Prop
  | non : RdE h₀ .none .none
  | bl (b : Bool) : RdE h₀ (.bool b) (.bool b)
  | int (i : Int) (t : Tok) : RdE h₀ (.int i t) (.int i)
  | str (x : Str) (t : Tok) : RdE h₀ (.str x t) (.str x)
  | lst {a : Addr} {ob : Obj} {its : Array Value} {n : Nat} {ds : List PyData} : h₀.get? a = some ob → ob.cls = .type "list" → ob.data = .seq its n → RdEs h₀ its.toList ds → RdE h₀ (.ref a) (.list ds)
  | tup {a : Addr} {ob : Obj} {its : Array Value} {n : Nat} {ds : List PyData} : h₀.get? a = some ob → ob.cls = .type "tuple" → ob.data = .seq its n → RdEs h₀ its.toList ds → RdE h₀ (.ref a) (.tuple ds)
  | dct {a : Addr} {ob : Obj} {en : Array DictEntry} {n : Nat} {kvs : List (PyData × PyData)} : h₀.get? a = some ob → ob.cls = .type "dict" → ob.data = .dict en n → (a == sysModules) = false →
      RdEs h₀ (en.toList.map (·.key)) (kvs.map (·.1)) → RdEs h₀ (en.toList.map (·.val)) (kvs.map (·.2)) → RdE h₀ (.ref a) (.dict kvs)
inductive RdEs (h₀ : Heap) : List Value → List PyData → Prop
  | nil : RdEs h₀ [] []
  | cons {v : Value} {vs : List Value} {d : PyData} {ds : List PyData} : RdE h₀ v d → RdEs h₀ vs ds → RdEs h₀ (v :: vs) (d :: ds)
end
mutual
theorem RdE.reads {h₀ : Heap} : ∀ {v : Value} {d : PyData}, RdE h₀ v d → ∃ as, Reads h₀ v d as
  | _, _, .non => ⟨_, .none⟩
  | _, _, .bl b => ⟨_, .bool b⟩
  | _, _, .int i t => ⟨_, .int i t⟩
  | _, _, .str x t => ⟨_, .str x t⟩
  | _, _, .lst g1 g2 g3 r => let ⟨_, r'⟩ := r.reads; ⟨_, .list g1 g2 g3 r'⟩
  | _, _, .tup g1 g2 g3 r => let ⟨_, r'⟩ := r.reads; ⟨_, .tuple g1 g2 g3 r'⟩
  | _, _, .dct g1 g2 g3 _ r q => let ⟨_, r'⟩ := r.reads; let ⟨_, q'⟩ := q.reads; ⟨_, .dict g1 g2 g3 r' q'⟩
theorem RdEs.reads {h₀ : Heap} : ∀ {vs : List Value} {ds : List PyData}, RdEs h₀ vs ds → ∃ as, ReadsAll h₀ vs ds as
  | _, _, .nil => ⟨_, .nil⟩
  | _, _, .cons r q => let ⟨_, r'⟩ := r.reads; let ⟨_, q'⟩ := q.reads; ⟨_, .cons r' q'⟩
end
section
variable {prog : Program} {w : World} {h₀ : Heap}
mutual
theorem RdE.K : ∀ {v : Value} {d : PyData}, RdE h₀ v d → d.showable = true → d.shown.length ≤ sizeLine → ∃ zs, ReadAtMost h₀ d.depth zs ∧ ReprK prog w zs h₀ d.depth v d.shown
  | _, _, .non, _, _ => ⟨[], fun _ m => (nomatch m), by simp only [PyData.shown]; exact ReprK.of_is ReprIs.none _ _ _⟩
  | _, _, .bl b, _, _ => ⟨[], fun _ m => (nomatch m), by simp only [PyData.shown]; exact ReprK.of_is (ReprIs.bool b) _ _ _⟩
  | _, _, .int i t, sh, _ => ⟨[], fun _ m => (nomatch m), by simp only [PyData.shown]; exact ReprK.of_is (ReprIs.int t (by simpa [PyData.showable] using sh)) _ _ _⟩
  | _, _, .str x t, _, sz => ⟨[], fun _ m => (nomatch m), by simp only [PyData.shown]; exact ReprK.of_is (ReprIs.str x t (by simpa only [PyData.shown] using sz)) _ _ _⟩
  | _, _, .lst (a := a) (its := its) (ds := ds) g1 g2 g3 r, sh, sz => by
    have sz2 : (listText (PyData.shownAll ds)).length ≤ sizeLine := by simpa only [PyData.shown] using sz
    obtain ⟨zs, hm, hk⟩ := r.K (by simpa [PyData.showable] using sh) (fun x hx => Nat.le_trans (listText_mem_le hx) sz2)
    obtain ⟨us, rr⟩ := RdE.reads (.lst g1 g2 g3 r)
    have out : a ∉ zs := not_mem_of_deeper rr (by simp only [PyData.depth]; omega) hm
    refine ⟨a :: zs, ReadAtMost.cons rr (by simp only [PyData.depth]; omega) hm, ?_⟩
    simp only [PyData.shown, PyData.depth]
    obtain ⟨l⟩ := its
    cases l with
    | nil =>
      have r2 : RdEs h₀ [] ds := r
      cases r2
      simp only [listText_nil, PyData.shownAll]
      exact ReprK.listEmpty g1 g2 g3
    | cons y l => exact ReprK.list g1 g2 g3 out (by simpa using hk.length_eq) (fun j z ez => hk.item j z (by simpa using ez))
  | _, _, .tup (a := a) (ds := ds) g1 g2 g3 r, sh, sz => by
    have sz2 : (tupleText (PyData.shownAll ds)).length ≤ sizeLine := by simpa only [PyData.shown] using sz
    obtain ⟨zs, hm, hk⟩ := r.K (by simpa [PyData.showable] using sh) (fun x hx => Nat.le_trans (tupleText_mem_le hx) sz2)
    obtain ⟨us, rr⟩ := RdE.reads (.tup g1 g2 g3 r)
    have out : a ∉ zs := not_mem_of_deeper rr (by simp only [PyData.depth]; omega) hm
    refine ⟨a :: zs, ReadAtMost.cons rr (by simp only [PyData.depth]; omega) hm, ?_⟩
    simp only [PyData.shown, PyData.depth]
    exact ReprK.tuple g1 g2 g3 out hk
  | _, _, .dct (a := a) (en := en) (kvs := kvs) g1 g2 g3 sys r q, sh, sz => by
    have sz2 : (dictText (PyData.shownKv kvs)).length ≤ sizeLine := by simpa only [PyData.shown] using sz
    obtain ⟨s1, s2⟩ := PyData.showableKv_split kvs (by simpa [PyData.showable] using sh)
    obtain ⟨z1, m1, k1⟩ := r.K s1 (fun x hx => let ⟨p, hp, hl⟩ := PyData.shownKv_key_le kvs x hx; Nat.le_trans (Nat.le_trans hl (dictText_mem_le hp)) sz2)
    obtain ⟨z2, m2, k2⟩ := q.K s2 (fun x hx => let ⟨p, hp, hl⟩ := PyData.shownKv_val_le kvs x hx; Nat.le_trans (Nat.le_trans hl (dictText_mem_le hp)) sz2)
    obtain ⟨us, rr⟩ := RdE.reads (.dct g1 g2 g3 sys r q)
    have hm : ReadAtMost h₀ (PyData.depthKv kvs) (z1 ++ z2) := (m1.mono (PyData.depthAll_keys_le kvs)).append (m2.mono (PyData.depthAll_vals_le kvs))
    have out : a ∉ z1 ++ z2 := not_mem_of_deeper rr (by simp only [PyData.depth]; omega) hm
    refine ⟨a :: (z1 ++ z2), ReadAtMost.cons rr (by simp only [PyData.depth]; omega) hm, ?_⟩
    simp only [PyData.shown, PyData.shownKv_eq, PyData.depth]
    exact ReprK.dict g1 g2 g3 sys out (ReprEntriesK.of_two en.toList _ _ (k1.more_le (fun c hc => List.mem_append_left _ hc) (PyData.depthAll_keys_le kvs))
      (k2.more_le (fun c hc => List.mem_append_right _ hc) (PyData.depthAll_vals_le kvs)))
theorem RdEs.K : ∀ {vs : List Value} {ds : List PyData}, RdEs h₀ vs ds → PyData.showableAll ds = true → (∀ x ∈ PyData.shownAll ds, x.length ≤ sizeLine) → ∃ zs, ReadAtMost h₀ (PyData.depthAll ds) zs ∧ ReprAllK prog w zs h₀ (PyData.depthAll ds) vs (PyData.shownAll ds)
  | _, _, .nil, _, _ => ⟨[], fun _ m => (nomatch m), by simp only [PyData.shownAll]; exact ReprAllK.nil⟩
  | _, _, .cons (d := d) (ds := ds) r q, sh, sz => by
    have sh2 : d.showable = true ∧ PyData.showableAll ds = true := by simpa [PyData.showableAll] using sh
    obtain ⟨z1, m1, k1⟩ := r.K sh2.1 (sz _ (by simp only [PyData.shownAll]; exact List.mem_cons_self))
    obtain ⟨z2, m2, k2⟩ := q.K sh2.2 (fun x hx => sz x (by simp only [PyData.shownAll]; exact List.mem_cons_of_mem _ hx))
    refine ⟨z1 ++ z2, ?_, ?_⟩
    · simp only [PyData.depthAll]
      exact (m1.mono (Nat.le_max_left _ _)).append (m2.mono (Nat.le_max_right _ _))
    · simp only [PyData.shownAll, PyData.depthAll]
      exact ReprAllK.cons ((k1.more fun c hc => List.mem_append_left _ hc).level_le (Nat.le_max_left _ _)) (k2.more_le (fun c hc => List.mem_append_right _ hc) (Nat.le_max_right _ _))
end
theorem RdE.shows {a : Addr} {d : PyData} (r : RdE h₀ (.ref a) d) (sh : d.showable = true) (sz : d.shown.length ≤ sizeLine) : ∃ T idr, ShowsBy prog w h₀ a d T idr := by
  cases r with
  | lst g1 g2 g3 r =>
    rename_i ob its n ds
    have sz2 : (listText (PyData.shownAll ds)).length ≤ sizeLine := by simpa only [PyData.shown] using sz
    obtain ⟨zs, hm, hk⟩ := r.K (prog := prog) (w := w) (by simpa [PyData.showable] using sh) (fun x hx => Nat.le_trans (listText_mem_le hx) sz2)
    obtain ⟨us, rr⟩ := RdE.reads (.lst g1 g2 g3 r)
    have out : a ∉ zs := not_mem_of_deeper rr (by simp only [PyData.depth]; omega) hm
    refine ⟨"list", "list.__repr__", F.slot_list_repr.toG, F.slot_list_str, F.slot_list_format, fun s kp => ⟨ob, kp _ _ g1, g2⟩, fun A E s Q gu ru kp q => ?_⟩
    simp only [PyData.depth] at ru
    simp only [PyData.shown] at q
    obtain ⟨l⟩ := its
    cases l with
    | nil =>
      have r2 : RdEs h₀ [] ds := r
      cases r2
      simp only [listText_nil, PyData.shownAll] at q
      exact call_list_repr_empty ⟨ob, kp _ _ g1, g2⟩ (kp _ _ g1) g3 (q s.heap _ _ fun _ _ z => z)
    | cons y l => exact call_list_reprK g1 g2 g3 out (by simpa using hk.length_eq) (fun j z ez => hk.item j z (by simpa using ez)) gu (fun c _ => Clear.nil c) ru kp q sz2
  | tup g1 g2 g3 r =>
    rename_i ob its n ds
    have sz2 : (tupleText (PyData.shownAll ds)).length ≤ sizeLine := by simpa only [PyData.shown] using sz
    obtain ⟨zs, hm, hk⟩ := r.K (prog := prog) (w := w) (by simpa [PyData.showable] using sh) (fun x hx => Nat.le_trans (tupleText_mem_le hx) sz2)
    obtain ⟨us, rr⟩ := RdE.reads (.tup g1 g2 g3 r)
    have out : a ∉ zs := not_mem_of_deeper rr (by simp only [PyData.depth]; omega) hm
    refine ⟨"tuple", "tuple.__repr__", F.slot_tuple_repr, F.slot_tuple_str, F.slot_tuple_format, fun s kp => ⟨ob, kp _ _ g1, g2⟩, fun A E s Q gu ru kp q => ?_⟩
    simp only [PyData.depth] at ru
    simp only [PyData.shown] at q
    exact call_tuple_reprK g1 g2 g3 out hk gu (fun c _ => Clear.nil c) ru kp q sz2
  | dct g1 g2 g3 sys r q0 =>
    rename_i ob en n kvs
    have sz2 : (dictText (PyData.shownKv kvs)).length ≤ sizeLine := by simpa only [PyData.shown] using sz
    obtain ⟨s1, s2⟩ := PyData.showableKv_split kvs (by simpa [PyData.showable] using sh)
    obtain ⟨z1, m1, k1⟩ := r.K (prog := prog) (w := w) s1 (fun x hx => let ⟨p, hp, hl⟩ := PyData.shownKv_key_le kvs x hx; Nat.le_trans (Nat.le_trans hl (dictText_mem_le hp)) sz2)
    obtain ⟨z2, m2, k2⟩ := q0.K (prog := prog) (w := w) s2 (fun x hx => let ⟨p, hp, hl⟩ := PyData.shownKv_val_le kvs x hx; Nat.le_trans (Nat.le_trans hl (dictText_mem_le hp)) sz2)
    obtain ⟨us, rr⟩ := RdE.reads (.dct g1 g2 g3 sys r q0)
    have hm : ReadAtMost h₀ (PyData.depthKv kvs) (z1 ++ z2) := (m1.mono (PyData.depthAll_keys_le kvs)).append (m2.mono (PyData.depthAll_vals_le kvs))
    have out : a ∉ z1 ++ z2 := not_mem_of_deeper rr (by simp only [PyData.depth]; omega) hm
    refine ⟨"dict", "dict.__repr__", F.slot_dict_repr, F.slot_dict_str, F.slot_dict_format, fun s kp => ⟨ob, kp _ _ g1, g2⟩, fun A E s Q gu ru kp q => ?_⟩
    simp only [PyData.depth] at ru
    simp only [PyData.shown, PyData.shownKv_eq] at q
    exact call_dict_reprK g1 g2 g3 sys out (ReprEntriesK.of_two en.toList _ _ (k1.more_le (fun c hc => List.mem_append_left _ hc) (PyData.depthAll_keys_le kvs))
      (k2.more_le (fun c hc => List.mem_append_right _ hc) (PyData.depthAll_vals_le kvs))) gu (fun c _ => Clear.nil c) ru kp q (by rw [← PyData.shownKv_eq]; exact sz2)
end
def keyPy : Key → PyData
  | .inl i => .int i
  | .inr x => .str x
mutual
/-- as data, dicts too -/
def toPyE : D → Option PyData
  | .non => some .none
  | .bl b => some (.bool b)
  | .int i => some (.int i)
  | .str x => some (.str x)
  | .tup xs => (toPyEs xs).map .tuple
  | .lst xs => (toPyEs xs).map .list
  | .dT ks xs => match toPyEs ks, toPyEs xs with
    | some ps, some qs => some (.dict (ps.zip qs))
    | _, _ => none
  | .dK ks xs => if ks.length = xs.length then (toPyEs xs).map fun qs => .dict ((ks.map keyPy).zip qs) else none
  | _ => none
def toPyEs : List D → Option (List PyData)
  | [] => some []
  | d :: ds => match toPyE d, toPyEs ds with
    | some p, some ps => some (p :: ps)
    | _, _ => none
end
section
variable {G : Gx} {X : Cx} {pins : List (Addr × Obj)} {σ : L2.St} {s : Shared} {H : Hp} {P : Addr → Prop}
theorem vals_refs : ∀ (as : List Addr), Vals (as.map V.ref) (as.map Value.ref)
  | [] => .nil
  | a :: as => .cons (show RelV (V.ref a) (Value.ref a) from rfl) (vals_refs as)
theorem toPyEs_len : ∀ {ds : List D} {ps : List PyData}, toPyEs ds = some ps → ps.length = ds.length
  | [], ps, e => by simp only [toPyEs, Option.some.injEq] at e; subst e; rfl
  | d :: ds, ps, e => by
    simp only [toPyEs] at e
    split at e
    · rename_i p ps' e1 e2
      cases e
      simp [toPyEs_len e2]
    · cases e
theorem Reps.len' {H : Hp} {P : Addr → Prop} : ∀ {ds : List D} {vs : List V}, Reps G H P ds vs → vs.length = ds.length
  | [], vs, h => by simp only [Reps] at h; subst h; rfl
  | d :: ds, vs, h => by simp only [Reps] at h; obtain ⟨v, r, rfl, _, h⟩ := h; simp [Reps.len' h]
theorem mixKeys {P : Program} {w : World} {h₀ : Heap} : ∀ {es : List DictEntry} {kvs : List (Key × V)} {zs : List (Key × Value)}, Pairs (mixKind P w) es zs → KV kvs zs → RdEs h₀ (es.map (·.key)) ((kvs.map (·.1)).map keyPy)
  | [], kvs, zs, p, q => by
    cases p
    cases q
    exact .nil
  | e :: es, kvs, zs, p, q => by
    cases p with
    | cons h1 h2 h3 =>
      cases q with
      | cons r1 r2 =>
        refine .cons ?_ (mixKeys h3 r2)
        rename_i z _ _ _
        have hz := r1.1
        dsimp only
        rcases keyIs_shape h1 with ⟨i, t, e1, e2⟩ | ⟨x, t, e1, e2⟩
        · rw [hz, e1, e2]; exact .int i t
        · rw [hz, e1, e2]; exact .str x t
theorem mixVals {P : Program} {w : World} : ∀ {es : List DictEntry} {zs : List (Key × Value)}, Pairs (mixKind P w) es zs → es.map (·.val) = zs.map (·.2)
  | [], zs, p => by cases p; rfl
  | e :: es, zs, p => by
    cases p with
    | cons h1 h2 h3 => simp only [List.map_cons, h2, mixVals h3]
theorem kvVals : ∀ {kvs : List (Key × V)} {zs : List (Key × Value)}, KV kvs zs → Vals (kvs.map (·.2)) (zs.map (·.2))
  | [], zs, q => by cases q; exact .nil
  | z :: kvs, zs, q => by
    cases q with
    | cons r1 r2 => exact .cons r1.2 (kvVals r2)
mutual
theorem Rep.rdE (I : Inv X pins σ H s) : ∀ (d : D) (v : V) (u : Value) (p : PyData), Rep G H P d v → RelV v u → toPyE d = some p → RdE s.heap u p
  | .non, v, u, p, h, r, e => by simp only [Rep] at h; subst h; simp only [toPyE, Option.some.injEq] at e; subst e; cases r; exact .non
  | .bl b, v, u, p, h, r, e => by simp only [Rep] at h; subst h; simp only [toPyE, Option.some.injEq] at e; subst e; cases r; exact .bl b
  | .int i, v, u, p, h, r, e => by
    simp only [Rep] at h; subst h; simp only [toPyE, Option.some.injEq] at e; subst e
    obtain ⟨t, rfl⟩ := (show ∃ t, u = Value.int i t from r)
    exact .int i t
  | .str x, v, u, p, h, r, e => by
    simp only [Rep] at h; subst h; simp only [toPyE, Option.some.injEq] at e; subst e
    obtain ⟨t, rfl⟩ := (show ∃ t, u = Value.str x t from r)
    exact .str x t
  | .tup xs, v, u, p, h, r, e => by
    simp only [Rep] at h; simp only [toPyE, Option.map_eq_some_iff] at e
    obtain ⟨ps, e, rfl⟩ := e
    obtain ⟨a, vs, rfl, h1, h2⟩ := h
    obtain rfl : u = Value.ref a := r
    obtain ⟨its, rv, ⟨o, ho, hc, n, hd⟩, _⟩ := I.tuple (.of h1)
    exact .tup ho hc hd (by simpa using Reps.rdE I xs vs its ps h2 rv e)
  | .lst xs, v, u, p, h, r, e => by
    simp only [Rep] at h; simp only [toPyE, Option.map_eq_some_iff] at e
    obtain ⟨ps, e, rfl⟩ := e
    obtain ⟨a, vs, rfl, _, h1, h2⟩ := h
    obtain rfl : u = Value.ref a := r
    obtain ⟨its, rv, ⟨o, n, ho, hc, _, hd⟩, _⟩ := I.list (.of h1)
    exact .lst ho hc hd (by simpa using Reps.rdE I xs vs its ps h2 rv e)
  | .dT ks xs, v, u, p, h, r, e => by
    simp only [Rep] at h
    obtain ⟨a, kv, vs, es, rfl, _, h1, de, h2, h3⟩ := h
    obtain rfl : u = Value.ref a := r
    simp only [toPyE] at e
    split at e
    · rename_i ps qs e1 e2
      cases e
      obtain ⟨o, en, ep, g1, g2, g3, g4, _⟩ := ext_at I h1
      have hkv := de.kv
      have k1 : kv = (es.map fun z => z.2.1).map V.ref := by rw [hkv, List.map_map]; rfl
      have lk : ps.length = es.length := by rw [toPyEs_len e1, ← Reps.len' h2, hkv]; simp
      have lv : qs.length = es.length := by
        rw [toPyEs_len e2, ← Reps.len' h3, de.vals.length]; simp
      have kk : en.toList.map (·.key) = (es.map fun z => z.2.1).map Value.ref := by rw [g4, List.map_map, List.map_map]; rfl
      have kx : en.toList.map (·.val) = es.map (·.2.2) := by rw [g4, List.map_map]; rfl
      refine .dct g1 g2.1 g3 de.sys ?_ ?_
      · rw [kk, List.map_fst_zip (by omega)]
        exact Reps.rdE I ks kv _ ps h2 (k1 ▸ vals_refs _) e1
      · rw [kx, List.map_snd_zip (by omega)]
        exact Reps.rdE I xs vs _ qs h3 de.vals e2
    · cases e
  | .dK ks xs, v, u, p, h, r, e => by
    simp only [Rep] at h
    obtain ⟨a, vs, rfl, _, h1, hl, h2⟩ := h
    obtain rfl : u = Value.ref a := r
    simp only [toPyE] at e
    split at e
    · rename_i lx
      simp only [Option.map_eq_some_iff] at e
      obtain ⟨qs, e, rfl⟩ := e
      obtain ⟨_, sys, zs, kv, o, en, ep, g1, g2, g3, _, g5, _⟩ := dk_of I.hok h1
      have k1 : (ks.zip vs).map (·.1) = ks := List.map_fst_zip (by omega)
      have k2 : (ks.zip vs).map (·.2) = vs := List.map_snd_zip (by omega)
      have lq := toPyEs_len e
      refine .dct g1 g2.1 g3 sys ?_ ?_
      · rw [List.map_fst_zip (by rw [List.length_map]; omega)]
        have := mixKeys (h₀ := s.heap) g5 kv
        rw [k1] at this
        exact this
      · rw [List.map_snd_zip (by rw [List.length_map]; omega), mixVals g5]
        have := kvVals kv
        rw [k2] at this
        exact Reps.rdE I xs vs _ qs h2 this e
    · cases e
  | .ins c xs, v, u, p, h, r, e => by simp [toPyE] at e
  | .scr ns, v, u, p, h, r, e => by simp [toPyE] at e
  | .kt, v, u, p, h, r, e => by simp [toPyE] at e
theorem Reps.rdE (I : Inv X pins σ H s) : ∀ (ds : List D) (vs : List V) (us : List Value) (ps : List PyData), Reps G H P ds vs → Vals vs us → toPyEs ds = some ps → RdEs s.heap us ps
  | [], vs, us, ps, h, r, e => by
    simp only [Reps] at h; subst h
    simp only [toPyEs, Option.some.injEq] at e; subst e
    cases r; exact .nil
  | d :: ds, vs, us, ps, h, r, e => by
    simp only [Reps] at h
    obtain ⟨v, vr, rfl, h1, h2⟩ := h
    simp only [toPyEs] at e
    split at e
    · rename_i q qs e1 e2
      cases e
      cases r with
      | cons r1 r2 => exact .cons (Rep.rdE I d v _ q h1 r1 e1) (Reps.rdE I ds vr _ qs h2 r2 e2)
    · cases e
end
end
/-- repr of any data -/
def reprD3 (d : D) : Option D := match d with
  | .non => some (.str "None")
  | .bl b => some (.str (boS b))
  | .str x => if (reprText x).length ≤ sizeLine then some (.str (reprText x)) else none
  | .int i => if i.natAbs.log2 < 1920 then some (.str (toString i)) else none
  | d => match toPyE d with
    | some p => if PyData.showable p = true ∧ PyData.depth p < 60 ∧ (PyData.shown p).length ≤ sizeLine then some (.str (PyData.shown p)) else none
    | none => none
section
variable {G : Gx} {X : Cx} {ios : List Nat} {W : WX} {a : Expr} {ga : Ev} {p pos : Pos}
def rReprE (X : Cx) : List V → Hp → VK → Prop := fun vs H Q => rRepr2 X vs H Q ∨ ∃ (G : Gx) (P : Addr → Prop) (a : Addr) (d : D) (q : PyData), vs = [V.ref a] ∧ Rep G H P d (.ref a) ∧ toPyE d = some q ∧ PyData.showable q = true ∧ PyData.depth q < 60 ∧ (PyData.shown q).length ≤ sizeLine ∧ Q (.str q.shown) H
theorem cr_reprE {k : Nat} (hr : RoomG k X.A) : CallR X (.builtin "repr") (rReprE X) := by
  intro pins s σ H vs us Q I r h
  rcases h with h | ⟨G, P, a, d, q, rfl, hd, he, h1, h3, h4, hq⟩
  · exact cr_repr2 hr pins s σ H vs us Q I r h
  · rw [Vals.ref1 r]
    have rd := Rep.rdE I d _ (.ref a) q hd rfl he
    have hu := hr.r.un
    obtain ⟨T, idr, S⟩ := rd.shows (prog := X.prog) (w := X.w) h1 h4
    exact call_repr_slot (by omega) (S.typeIs s fun _ _ z => z) S.slotRepr (S.call X.A.in1 _ s _ hr.g (by show X.A.units + 1 + q.depth < cLine; omega) (fun _ _ z => z) fun h' u tk hk => ⟨_, _, rfl, .str q.shown, H, I.kept hk, ⟨u, rfl⟩, hq⟩)
theorem OuP.dcK {pr : Addr → Prop} {io : List (Nat × V)} {σ : L2.St} {s : Sx} {Q : VK} {ks : List Key} {xs : List D} {vs : List V} (h : OuP G W pr io σ s (.ok (.v .O (.dK ks xs)) s.ρ) Q) (r : SR G pr io σ s) {p : Addr} (hp : s.H p = none) (hl : ks.length = vs.length) (h2 : Reps G s.H s.fz xs vs) : Q (.ref p) (upd s.H p (.dK (ks.zip vs))) := by
  have f := r.fresh hp
  refine h _ (s.new p (.dK (ks.zip vs))) [p] rfl (r.new hp _) (Ext.new hp _) ⟨?_, by simp, fun a ha => ?_⟩ fun a ha => ?_
  · show TmR _ _ _ _ _ _ _
    simp only [TmR, RepO]
    exact ⟨p, vs, rfl, rfl, upd_same, hl, Reps.keep (fun _ z => z) (fun a o _ e => by show upd _ _ _ _ = _; rw [upd_ne (ne_of_none e hp)]; exact e) (tk_new hp _) _ _ h2⟩
  · rw [List.mem_singleton] at ha; subst ha; exact f
  · rw [List.mem_singleton] at ha; subst ha; exact .inr hp
/-- {} among data of mixed kinds -/
def eDK0 : Ev := fun ρ => .ok (.v .O (.dK [] [])) ρ
theorem v_dK0 : PEv X G W ios (.Dict [] [] pos) eDK0 := pe_imp pe_dnewK fun σ H Q q => by
  obtain ⟨pr, io, s, rfl, hi, r, q⟩ := of_tEv q
  intro p hp
  exact OuP.dcK (ks := []) (xs := []) (vs := []) q r hp rfl (by simp [Reps])
/-! is, is not of bools -/
def dB2 (f : Bool → Bool → Bool) : D → D → Option D
  | .bl a, .bl b => some (.bl (f a b))
  | _, _ => none
theorem rdB2 {f : Bool → Bool → Bool} : Rd2 G (dB2 f) (fun x y H Q => ∃ a b : Bool, x = .bl a ∧ y = .bl b ∧ Q (.bl (f a b)) H) := by
  intro H x y dx dy d Q hx hy e q
  cases dx <;> simp only [dB2, reduceCtorEq] at e
  cases dy <;> simp only [dB2, reduceCtorEq, Option.some.injEq] at e
  subst e
  simp only [Rep] at hx hy
  exact ⟨_, _, hx, hy, q _ fun P => by simp only [Rep]⟩
def eIsB : Ev → Ev → Ev := eOp2 (rd2 (dB2 fun a b => decide (a = b)))
def eNotB : Ev → Ev → Ev := eOp2 (rd2 (dB2 fun a b => !decide (a = b)))
theorem v_isB {b : Expr} {gb : Ev} (ha : PEv X G W ios a ga) (hb : PEv X G W ios b gb) : PEv X G W ios (.Compare a [.Is] [b] pos) (eIsB ga gb) := v_cmp op_isBl (Rd2.op rdB2) ha hb (nomark _)
theorem t_notB {b : Expr} {gb : Ev} (ha : PEv X G W ios a ga) (hb : PEv X G W ios b gb) : PTv X G W ios (.Compare a [.IsNot] [b] pos) (eNotB ga gb) := t_cmp op_notBl (Rd2.op rdB2) ha hb (nomark _)
/-- int(b) -/
def intB : D → Option D
  | .int i => some (.int i)
  | .bl b => some (.int (if b then 1 else 0))
  | _ => none
def eIntB : Ev → Ev := eOp1 (rd1 intB)
theorem v_intB (hm : X.mg "int" = none) (ha : PEv X G W ios a ga) (hg : Gl X "int" := by rfl) (hs : starEach [a] X.env = (false, eval a X.env) :: starEach [] X.env := by rfl) : PEv X G W ios (.Call (.Name "int" p) [a] [] pos) (eIntB ga) :=
  v_ty1 call_int1 (Rd1.op (by
    intro H x dx d Q hx e q
    cases dx <;> simp only [intB, reduceCtorEq, Option.some.injEq] at e <;> subst e <;> simp only [Rep] at hx <;> subst hx
    · exact .inr ⟨_, rfl, q _ fun P => by simp only [Rep]⟩
    · exact .inl ⟨_, rfl, q _ fun P => by simp only [Rep]⟩)) hm ha hg (hs := hs)
def eRepr3 : Ev → Ev := eOp1 (rd1 reprD3)
theorem rd_repr3 : Rd1 G reprD3 (fun x H Q => rReprE X [x] H Q) := by
  intro H x dx d Q hx e q
  unfold reprD3 at e
  split at e
  · cases e
    simp only [Rep] at hx
    subst hx
    exact .inl (.inr (.inl ⟨rfl, q _ fun P => by simp only [Rep]⟩))
  · cases e
    simp only [Rep] at hx
    subst hx
    exact .inl (.inl ⟨_, rfl, q _ fun P => by simp only [Rep]⟩)
  · split at e
    · rename_i hz
      cases e
      simp only [Rep] at hx
      subst hx
      exact .inl (.inr (.inr (.inl ⟨_, rfl, hz, q _ fun P => by simp only [Rep]⟩)))
    · cases e
  · split at e
    · rename_i hz
      cases e
      simp only [Rep] at hx
      subst hx
      exact .inl (.inr (.inr (.inr (.inl ⟨_, rfl, hz, q _ fun P => by simp only [Rep]⟩))))
    · cases e
  · split at e
    · rename_i p' ep
      split at e
      · rename_i hc
        cases e
        cases dx <;> simp only [toPyE, Option.some.injEq, reduceCtorEq, Option.map_eq_some_iff, and_false, exists_false] at ep
        case tup xs =>
          have hx0 := hx
          simp only [Rep] at hx
          obtain ⟨a, vs, rfl, _⟩ := hx
          exact .inr ⟨G, TT1, a, _, p', rfl, hx0, by simp only [toPyE, Option.map_eq_some_iff]; exact ep, hc.1, hc.2.1, hc.2.2, q _ fun P => by simp only [Rep]⟩
        case lst xs =>
          have hx0 := hx
          simp only [Rep] at hx
          obtain ⟨a, vs, rfl, _⟩ := hx
          exact .inr ⟨G, TT1, a, _, p', rfl, hx0, by simp only [toPyE, Option.map_eq_some_iff]; exact ep, hc.1, hc.2.1, hc.2.2, q _ fun P => by simp only [Rep]⟩
        case dT ks xs =>
          have hx0 := hx
          simp only [Rep] at hx
          obtain ⟨a, kv, vs, es, rfl, _⟩ := hx
          exact .inr ⟨G, TT1, a, _, p', rfl, hx0, by simp only [toPyE]; exact ep, hc.1, hc.2.1, hc.2.2, q _ fun P => by simp only [Rep]⟩
        case dK ks xs =>
          have hx0 := hx
          simp only [Rep] at hx
          obtain ⟨a, vs, rfl, _⟩ := hx
          exact .inr ⟨G, TT1, a, _, p', rfl, hx0, by simp only [toPyE]; exact ep, hc.1, hc.2.1, hc.2.2, q _ fun P => by simp only [Rep]⟩
        all_goals (subst ep; simp_all)
      · cases e
    · cases e
theorem v_repr3 {k : Nat} (hr : RoomG k X.A) (hm : X.mg "repr" = none) (ha : PEv X G W ios a ga) (hg : Gl X "repr" := by rfl) (hs : starEach [a] X.env = (false, eval a X.env) :: starEach [] X.env := by rfl) : PEv X G W ios (.Call (.Name "repr" p) [a] [] pos) (eRepr3 ga) :=
  v_b1 (cr_reprE hr) (Rd1.op rd_repr3) hm ha hg (hs := hs)
end
end PV

namespace PV
open PySem L2

/-! ### what a denotation answers: a small logic -/
abbrev PX := Er → Ss → Prop
def OuW (o : Ou) (P : Tm → Ss → Prop) (X : PX) : Prop := match o with
  | .ok t ρ => P t ρ
  | .ex e ρ => X e ρ
  | .no => False
def OlW (o : OuL) (P : List Tm → Ss → Prop) (X : PX) : Prop := match o with
  | .ok t ρ => P t ρ
  | .ex e ρ => X e ρ
  | .no => False
def FlW (o : Fl) (N : Ss → Prop) (R : Tm → Ss → Prop) (B C : Ss → Prop) (X : PX) : Prop := match o with
  | .nx ρ => N ρ
  | .rt t ρ => R t ρ
  | .bk ρ => B ρ
  | .ct ρ => C ρ
  | .ex e ρ => X e ρ
  | .no => False
def FoW (o : Fo) (P : Tm → List Tm → Prop) (X : Er → List Tm → Prop) : Prop := match o with
  | .ok t us => P t us
  | .ex e us => X e us
  | .no => False
@[irreducible] def EW (g : Ev) (ρ : Ss) (P : Tm → Ss → Prop) (X : PX) : Prop := OuW (g ρ) P X
@[irreducible] def AW (g : Ss → OuL) (ρ : Ss) (P : List Tm → Ss → Prop) (X : PX) : Prop := OlW (g ρ) P X
@[irreducible] def IW (g : Iv) (ρ : Ss) (P : List Tm → Ss → Prop) (X : PX) : Prop := OlW (g ρ) P X
@[irreducible] def SW (g : Sm) (ρ : Ss) (N : Ss → Prop) (R : Tm → Ss → Prop) (B C : Ss → Prop) (X : PX) : Prop := FlW (g ρ) N R B C X
@[irreducible] def FW (f : Fn) (ts : List Tm) (P : Tm → List Tm → Prop) (X : Er → List Tm → Prop) : Prop := FoW (f ts) P X
abbrev X0 : PX := fun _ _ => False
abbrev XF0 : Er → List Tm → Prop := fun _ _ => False
abbrev NoS : Ss → Prop := fun _ => False
section
variable {ρ : Ss} {P P' : Tm → Ss → Prop} {X X' : PX} {g ga gb gc : Ev} {gs : Ss → OuL} {N N' : Ss → Prop} {R R' : Tm → Ss → Prop} {B C B' C' : Ss → Prop} {t u : Tm} {PL PL' : List Tm → Ss → Prop}
theorem OuW.imp {o : Ou} (h : OuW o P X) (i : ∀ t ρ, P t ρ → P' t ρ) (j : ∀ e ρ, X e ρ → X' e ρ) : OuW o P' X' := by
  cases o with
  | ok t ρ => exact i _ _ h
  | ex e ρ => exact j _ _ h
  | no => exact h
theorem OuW.bind {o : Ou} {k : Tm → Ss → Ou} (h : OuW o (fun t ρ => OuW (k t ρ) P X) X) : OuW (o.bind k) P X := by
  cases o with
  | ok t ρ => exact h
  | ex e ρ => exact h
  | no => exact h
theorem OuW.bindL {o : Ou} {k : Tm → Ss → OuL} (h : OuW o (fun t ρ => OlW (k t ρ) PL X) X) : OlW (o.bindL k) PL X := by
  cases o with
  | ok t ρ => exact h
  | ex e ρ => exact h
  | no => exact h
theorem OlW.bind {o : OuL} {k : List Tm → Ss → Ou} (h : OlW o (fun t ρ => OuW (k t ρ) P X) X) : OuW (o.bind k) P X := by
  cases o with
  | ok t ρ => exact h
  | ex e ρ => exact h
  | no => exact h
theorem OlW.bindL {o : OuL} {k : List Tm → Ss → OuL} (h : OlW o (fun t ρ => OlW (k t ρ) PL X) X) : OlW (o.bindL k) PL X := by
  cases o with
  | ok t ρ => exact h
  | ex e ρ => exact h
  | no => exact h
theorem OuW.toF {o : Ou} {k : Tm → Ss → Fl} (h : OuW o (fun t ρ => FlW (k t ρ) N R B C X) X) : FlW (o.toF k) N R B C X := by
  cases o with
  | ok t ρ => exact h
  | ex e ρ => exact h
  | no => exact h
/-- from and to the plain equation -/
theorem EW.ok {ρ' : Ss} (h : g ρ = .ok t ρ') (p : P t ρ') : EW g ρ P X := by with_unfolding_all (unfold EW; rw [h]; exact p)
theorem EW.get (h : EW g ρ P X0) : ∃ t ρ', g ρ = .ok t ρ' ∧ P t ρ' := by
  with_unfolding_all
    unfold EW at h
    cases e : g ρ with
    | ok t ρ' => rw [e] at h; exact ⟨t, ρ', rfl, h⟩
    | ex e' ρ' => rw [e] at h; exact h.elim
    | no => rw [e] at h; exact h.elim
theorem EW.imp (h : EW g ρ P X) (i : ∀ t ρ, P t ρ → P' t ρ) : EW g ρ P' X := by with_unfolding_all exact (OuW.imp h i fun _ _ h => h)
/-! names and constants -/
theorem EW.c {d : D} (p : P (.v .F d) ρ) : EW (eC d) ρ P X := by with_unfolding_all exact (p)
theorem EW.n (p : P (.v .F .non) ρ) : EW eN ρ P X := by with_unfolding_all exact (p)
theorem EW.tr (p : P (.v .F (.bl true)) ρ) : EW eTrue ρ P X := by with_unfolding_all exact (p)
/-! shared, moved -/
/-- what eF makes of a value in flight -/
@[irreducible] def FzW (t : Tm) (ρ : Ss) (P : Tm → Ss → Prop) : Prop := OuW (eF1 t ρ) P X0
theorem OuW.x0 {o : Ou} (h : OuW o P X0) : OuW o P X := OuW.imp h (fun _ _ h => h) fun _ _ h => h.elim
theorem EW.fz (h : EW g ρ (fun t ρ1 => FzW t ρ1 P) X) : EW (eF g) ρ P X := by
  with_unfolding_all
    unfold EW
    rw [ef_eq]
    exact OuW.bind (OuW.imp h (fun _ _ h => h.x0) fun _ _ h => h)
theorem FzW.F {d : D} (p : P (.v .F d) ρ) : FzW (.v .F d) ρ P := by with_unfolding_all (unfold FzW; rw [ef1_F]; exact p)
theorem FzW.O {d : D} (p : P (.v .F d) ρ) : FzW (.v .O d) ρ P := by with_unfolding_all (unfold FzW; rw [ef1_O]; exact p)
theorem FzW.Bx {d : D} (hf : flat d = true) (p : P (.v .F d) ρ) : FzW (.v .B d) ρ P := by
  with_unfolding_all
    unfold FzW eF1
    simp only [frz_B, hf, if_true]
    exact p
theorem FzW.loc {i : Nat} {d : D} {ρ' : Ss} (h : ρ[i]? = some (some (.v .O d))) (hs : ρ.set i (some (.v .F d)) = ρ') (p : P (.v .F d) ρ') : FzW (.loc i) ρ P := by
  with_unfolding_all
    unfold FzW eF1
    subst hs
    simp only [h, frz_O]
    exact p
@[irreducible] def MvW (t : Tm) (ρ : Ss) (P : Tm → Ss → Prop) : Prop := OuW (eM1 t ρ) P X0
theorem EW.mv (h : EW g ρ (fun t ρ1 => MvW t ρ1 P) X) : EW (eM g) ρ P X := by
  with_unfolding_all
    unfold EW
    rw [em_eq]
    exact OuW.bind (OuW.imp h (fun _ _ h => h.x0) fun _ _ h => h)
theorem MvW.v {k : Kd} {d : D} (p : P (.v k d) ρ) : MvW (.v k d) ρ P := by with_unfolding_all exact (p)
theorem MvW.loc {i : Nat} {t0 : Tm} {ρ' : Ss} (h : ρ[i]? = some (some t0)) (hs : ρ.set i none = ρ') (p : P t0 ρ') : MvW (.loc i) ρ P := by
  with_unfolding_all
    unfold MvW eM1
    subst hs
    simp only [h]
    exact p

/-! the data behind a term -/
def Is (ρ : Ss) (t : Tm) (k : Kd) (d : D) : Prop := derT ρ t = some (.v k d)
theorem Is.v {k : Kd} {d : D} : Is ρ (.v k d) k d := rfl
theorem Is.loc {i : Nat} {k : Kd} {d : D} (h : ρ[i]? = some (some (.v k d))) : Is ρ (.loc i) k d := by simp only [Is, derT, h]
def O1W (f : Tm → Option Tm) (t : Tm) (ρ : Ss) (P : Tm → Ss → Prop) : Prop := ∃ x r, derT ρ t = some x ∧ f x = some r ∧ P r ρ
def O2W (f : Tm → Tm → Option Tm) (t u : Tm) (ρ : Ss) (P : Tm → Ss → Prop) : Prop := ∃ x y r, derT ρ t = some x ∧ derT ρ u = some y ∧ f x y = some r ∧ P r ρ
theorem EW.op1 {f : Tm → Option Tm} (h : EW g ρ (fun t ρ1 => O1W f t ρ1 P) X) : EW (eOp1 f g) ρ P X := by
  with_unfolding_all
    unfold EW
    rw [op1_eq]
    refine OuW.bind (OuW.imp h (fun t ρ1 h => ?_) fun _ _ h => h)
    obtain ⟨x, r, h1, h2, h3⟩ := h
    rw [h1, Option.bind_some, h2]
    exact h3
theorem EW.op2 {f : Tm → Tm → Option Tm} (h : EW ga ρ (fun t ρ1 => EW gb ρ1 (fun u ρ2 => O2W f t u ρ2 P) X) X) : EW (eOp2 f ga gb) ρ P X := by
  with_unfolding_all
    unfold EW
    rw [op2_eq]
    refine OuW.bind (OuW.imp h (fun t ρ1 h => OuW.bind (OuW.imp h (fun u ρ2 h => ?_) fun _ _ h => h)) fun _ _ h => h)
    obtain ⟨x, y, r, h1, h2, h3, h4⟩ := h
    rw [h1, h2, Option.bind_some, Option.bind_some, h3]
    exact h4
theorem rd1_is {f : D → Option D} {d r : D} {k : Kd} (ht : Is ρ t k d) (h : f d = some r) (p : P (.v .F r) ρ) : O1W (rd1 f) t ρ P := ⟨_, _, ht, by simp only [rd1, toD_v, h, Option.map_some], p⟩
theorem rd2_is {f : D → D → Option D} {d e r : D} {k l : Kd} (ht : Is ρ t k d) (hu : Is ρ u l e) (h : f d e = some r) (p : P (.v .F r) ρ) : O2W (rd2 f) t u ρ P := ⟨_, _, _, ht, hu, by simp only [rd2, toD_v, h, Option.map_some], p⟩
/-- two ints -/
def IIW (t u : Tm) (ρ : Ss) (K : Int → Int → Prop) : Prop := ∃ i j k l, Is ρ t k (.int i) ∧ Is ρ u l (.int j) ∧ K i j
theorem IIW.go {i j : Int} {k l : Kd} {K : Int → Int → Prop} (h1 : Is ρ t k (.int i)) (h2 : Is ρ u l (.int j)) (h : K i j) : IIW t u ρ K := ⟨i, j, k, l, h1, h2, h⟩
def I1W (t : Tm) (ρ : Ss) (K : Int → Prop) : Prop := ∃ i k, Is ρ t k (.int i) ∧ K i
theorem I1W.go {i : Int} {k : Kd} {K : Int → Prop} (h1 : Is ρ t k (.int i)) (h : K i) : I1W t ρ K := ⟨i, k, h1, h⟩
theorem ii_op {f : Int → Int → Option Int} {r : Int → Int → Int} (h : IIW t u ρ fun i j => f i j = some (r i j) ∧ P (.v .F (.int (r i j))) ρ) : O2W (rd2 (dI2 f)) t u ρ P := by
  obtain ⟨i, j, k, l, h1, h2, h3, h4⟩ := h
  exact rd2_is h1 h2 (by simp only [dI2, h3, Option.map_some]) h4
theorem ii_cmp {f : Int → Int → Bool} (h : IIW t u ρ fun i j => P (.v .F (.bl (f i j))) ρ) : O2W (rd2 (dC2 f)) t u ρ P := by
  obtain ⟨i, j, k, l, h1, h2, h3⟩ := h
  exact rd2_is h1 h2 rfl h3
abbrev E2W (ga gb : Ev) (ρ : Ss) (X : PX) (K : Tm → Tm → Ss → Prop) : Prop := EW ga ρ (fun t ρ1 => EW gb ρ1 (fun u ρ2 => K t u ρ2) X) X
theorem E2W.imp {K K' : Tm → Tm → Ss → Prop} (h : E2W ga gb ρ X K) (i : ∀ t u ρ, K t u ρ → K' t u ρ) : E2W ga gb ρ X K' := by with_unfolding_all exact (EW.imp h fun _ _ h => EW.imp h fun _ _ h => i _ _ _ h)
theorem EW.sub (h : EW ga ρ (fun t ρ1 => EW gb ρ1 (fun u ρ2 => IIW t u ρ2 fun i j => P (.v .F (.int (i - j))) ρ2) X) X) : EW (eSub ga gb) ρ P X := by with_unfolding_all exact (EW.op2 (E2W.imp h fun t u ρ h => ii_op (r := fun i j => i - j) (by obtain ⟨i, j, k, l, h1, h2, h3⟩ := h; exact ⟨i, j, k, l, h1, h2, rfl, h3⟩)))
theorem EW.mod (h : EW ga ρ (fun t ρ1 => EW gb ρ1 (fun u ρ2 => IIW t u ρ2 fun i j => 0 < j ∧ P (.v .F (.int (i % j))) ρ2) X) X) : EW (eMod ga gb) ρ P X := by with_unfolding_all exact (EW.op2 (E2W.imp h fun t u ρ h => ii_op (r := fun i j => i % j) (by obtain ⟨i, j, k, l, h1, h2, h3, h4⟩ := h; exact ⟨i, j, k, l, h1, h2, by unfold modI; rw [if_pos h3], h4⟩)))
theorem EW.div (h : EW ga ρ (fun t ρ1 => EW gb ρ1 (fun u ρ2 => IIW t u ρ2 fun i j => (0 < j ∧ j < 1073741824) ∧ P (.v .F (.int (i / j))) ρ2) X) X) : EW (eDiv ga gb) ρ P X := by with_unfolding_all exact (EW.op2 (E2W.imp h fun t u ρ h => ii_op (r := fun i j => i / j) (by obtain ⟨i, j, k, l, h1, h2, h3, h4⟩ := h; exact ⟨i, j, k, l, h1, h2, by unfold divI; rw [if_pos h3], h4⟩)))
theorem EW.max2 (h : EW ga ρ (fun t ρ1 => EW gb ρ1 (fun u ρ2 => IIW t u ρ2 fun i j => P (.v .F (.int (max i j))) ρ2) X) X) : EW (eMax2 ga gb) ρ P X := by with_unfolding_all exact (EW.op2 (E2W.imp h fun t u ρ h => ii_op (r := fun i j => max i j) (by obtain ⟨i, j, k, l, h1, h2, h3⟩ := h; exact ⟨i, j, k, l, h1, h2, by congr 1; split <;> omega, h3⟩)))
theorem EW.min2 (h : EW ga ρ (fun t ρ1 => EW gb ρ1 (fun u ρ2 => IIW t u ρ2 fun i j => P (.v .F (.int (min i j))) ρ2) X) X) : EW (eMin2 ga gb) ρ P X := by with_unfolding_all exact (EW.op2 (E2W.imp h fun t u ρ h => ii_op (r := fun i j => min i j) (by obtain ⟨i, j, k, l, h1, h2, h3⟩ := h; exact ⟨i, j, k, l, h1, h2, by congr 1; split <;> omega, h3⟩)))
theorem EW.lt (h : EW ga ρ (fun t ρ1 => EW gb ρ1 (fun u ρ2 => IIW t u ρ2 fun i j => P (.v .F (.bl (decide (i < j)))) ρ2) X) X) : EW (eLt ga gb) ρ P X := by with_unfolding_all exact (EW.op2 (E2W.imp h fun _ _ _ h => ii_cmp h))
theorem EW.le (h : EW ga ρ (fun t ρ1 => EW gb ρ1 (fun u ρ2 => IIW t u ρ2 fun i j => P (.v .F (.bl (decide (i ≤ j)))) ρ2) X) X) : EW (eLe ga gb) ρ P X := by with_unfolding_all exact (EW.op2 (E2W.imp h fun _ _ _ h => ii_cmp h))
theorem EW.gt (h : EW ga ρ (fun t ρ1 => EW gb ρ1 (fun u ρ2 => IIW t u ρ2 fun i j => P (.v .F (.bl (decide (j < i)))) ρ2) X) X) : EW (eGt ga gb) ρ P X := by with_unfolding_all exact (EW.op2 (E2W.imp h fun _ _ _ h => ii_cmp h))
/-- the sums: ints, texts, lists, tuples -/
def AddW (t u : Tm) (ρ : Ss) (P : Tm → Ss → Prop) : Prop := O2W opAdd t u ρ P
theorem EW.add (h : EW ga ρ (fun t ρ1 => EW gb ρ1 (fun u ρ2 => AddW t u ρ2 P) X) X) : EW (eAdd ga gb) ρ P X := by with_unfolding_all exact (EW.op2 h)
theorem AddW.ii {i j : Int} {k l : Kd} (h1 : Is ρ t k (.int i)) (h2 : Is ρ u l (.int j)) (p : P (.v .F (.int (i + j))) ρ) : AddW t u ρ P := ⟨_, _, _, h1, h2, rfl, p⟩
def MulW (t u : Tm) (ρ : Ss) (P : Tm → Ss → Prop) : Prop := O2W opMul t u ρ P
theorem EW.mul (h : EW ga ρ (fun t ρ1 => EW gb ρ1 (fun u ρ2 => MulW t u ρ2 P) X) X) : EW (eMul ga gb) ρ P X := by with_unfolding_all exact (EW.op2 h)
theorem MulW.ii {i j : Int} {k l : Kd} (h1 : Is ρ t k (.int i)) (h2 : Is ρ u l (.int j)) (hb : (-18446744073709551616 < i ∧ i < 18446744073709551616) ∨ (-18446744073709551616 < j ∧ j < 18446744073709551616)) (p : P (.v .F (.int (i * j))) ρ) : MulW t u ρ P := by
  have hb : (-(2 ^ 64) < i ∧ i < 2 ^ 64) ∨ (-(2 ^ 64) < j ∧ j < 2 ^ 64) := hb
  exact ⟨_, _, _, h1, h2, by simp only [opMul, mulV, mulI, if_pos hb, Option.map_some], p⟩

/-! arguments -/
theorem AW.nil (p : PL [] ρ) : AW gNil ρ PL X := by with_unfolding_all exact (p)
theorem AW.cons (h : EW g ρ (fun t ρ1 => AW gs ρ1 (fun ts ρ2 => PL (t :: ts) ρ2) X) X) : AW (gCons g gs) ρ PL X := by
  with_unfolding_all
    unfold AW
    rw [gcons_eq]
    exact OuW.bindL (OuW.imp h (fun _ _ h => OlW.bindL h) fun _ _ h => h)
def FzsW (ts : List Tm) (K : List D → Prop) : Prop := ∃ ds, frzs ts = some ds ∧ K ds
theorem FzsW.nil {K : List D → Prop} (h : K []) : FzsW [] K := ⟨[], frzs_nil, h⟩
theorem FzsW.F {K : List D → Prop} {d : D} {ts : List Tm} (h : FzsW ts fun ds => K (d :: ds)) : FzsW (.v .F d :: ts) K := by
  obtain ⟨ds, e, h⟩ := h
  exact ⟨d :: ds, by simp only [frzs_cons, frz_F, e, Option.bind_some, Option.map_some], h⟩
theorem FzsW.O {K : List D → Prop} {d : D} {ts : List Tm} (h : FzsW ts fun ds => K (d :: ds)) : FzsW (.v .O d :: ts) K := by
  obtain ⟨ds, e, h⟩ := h
  exact ⟨d :: ds, by simp only [frzs_cons, frz_O, e, Option.bind_some, Option.map_some], h⟩
theorem OlW.imp {o : OuL} (h : OlW o PL X) (i : ∀ t ρ, PL t ρ → PL' t ρ) : OlW o PL' X := by
  cases o with
  | ok t ρ => exact i _ _ h
  | ex e ρ => exact h
  | no => exact h
theorem EW.tup (h : AW gs ρ (fun ts ρ1 => FzsW ts fun ds => ds.length ≤ sizeLine ∧ P (.v .F (.tup ds)) ρ1) X) : EW (eTup gs) ρ P X := by
  with_unfolding_all
    unfold EW
    rw [etup_eq]
    refine OlW.bind (OlW.imp h fun ts ρ1 h => ?_)
    obtain ⟨ds, e, hl, p⟩ := h
    simp only [e, if_pos hl]
    exact p
theorem EW.lst (h : AW gs ρ (fun ts ρ1 => FzsW ts fun ds => ds.length ≤ sizeLine ∧ P (.v .O (.lst ds)) ρ1) X) : EW (eLst gs) ρ P X := by
  with_unfolding_all
    unfold EW
    rw [elst_eq]
    refine OlW.bind (OlW.imp h fun ts ρ1 h => ?_)
    obtain ⟨ds, e, hl, p⟩ := h
    simp only [e, if_pos hl]
    exact p
/-! statements -/
theorem SW.seq {g1 g2 : Sm} (h : SW g1 ρ (fun ρ1 => SW g2 ρ1 N R B C X) R B C X) : SW (sSeq g1 g2) ρ N R B C X := by
  with_unfolding_all
    unfold SW at h ⊢
    rw [seq_eq]
    cases e : g1 ρ <;> rw [e] at h <;> exact h
theorem SW.imp {g1 : Sm} (h : SW g1 ρ N R B C X) (i : ∀ ρ, N ρ → N' ρ) : SW g1 ρ N' R B C X := by
  with_unfolding_all
    unfold SW at h ⊢
    cases e : g1 ρ <;> rw [e] at h <;> first | exact i _ h | exact h
theorem SW.nil (h : N ρ) : SW sNil ρ N R B C X := by with_unfolding_all exact (h)
theorem SW.brk (h : B ρ) : SW sBreak ρ N R B C X := by with_unfolding_all exact (h)
theorem SW.ret (h : EW g ρ R X) : SW (sRet g) ρ N R B C X := by with_unfolding_all exact (OuW.toF (OuW.imp h (fun _ _ h => h) fun _ _ h => h))
theorem SW.expr (h : EW g ρ (fun _ ρ1 => N ρ1) X) : SW (sExpr g) ρ N R B C X := by with_unfolding_all exact (OuW.toF (OuW.imp h (fun _ _ h => h) fun _ _ h => h))
theorem SW.set {i : Nat} (h : EW g ρ (fun t ρ1 => isLoc t = false ∧ i < ρ1.length ∧ ∃ ρ2, ρ1.set i (some t) = ρ2 ∧ N ρ2) X) : SW (sSet i g) ρ N R B C X := by
  with_unfolding_all
    unfold SW
    rw [sset_eq]
    refine OuW.toF (OuW.imp h (fun t ρ1 h => ?_) fun _ _ h => h)
    obtain ⟨h1, h2, _, rfl, h3⟩ := h
    rw [if_pos ⟨h1, h2⟩]
    exact h3
/-- a test's two ways -/
def BoW (t : Tm) (T F : Prop) : Prop := ∃ b, asB t = some b ∧ (b = true → T) ∧ (b = false → F)
theorem BoW.tt {k : Kd} {T F : Prop} (h : T) : BoW (.v k (.bl true)) T F := ⟨true, rfl, fun _ => h, fun z => by cases z⟩
theorem BoW.ff {k : Kd} {T F : Prop} (h : F) : BoW (.v k (.bl false)) T F := ⟨false, rfl, fun z => by (cases z), fun _ => h⟩
theorem BoW.d {k : Kd} {T F : Prop} {p : Prop} [Decidable p] (h1 : p → T) (h2 : ¬ p → F) : BoW (.v k (.bl (decide p))) T F := ⟨_, rfl, fun z => h1 (of_decide_eq_true z), fun z => h2 (of_decide_eq_false z)⟩
theorem BoW.b {k : Kd} {T F : Prop} {b : Bool} (h1 : b = true → T) (h2 : b = false → F) : BoW (.v k (.bl b)) T F := ⟨_, rfl, h1, h2⟩
theorem BoW.of {t : Tm} {T F : Prop} (h : BoW t T F) : ∃ b, asB t = some b ∧ (if b = true then T else F) := by
  obtain ⟨b, e, h1, h2⟩ := h
  refine ⟨b, e, ?_⟩
  cases b with
  | true => exact h1 rfl
  | false => exact h2 rfl
theorem SW.ite {g1 g2 : Sm} (h : EW gc ρ (fun t ρ1 => BoW t (SW g1 ρ1 N R B C X) (SW g2 ρ1 N R B C X)) X) : SW (sIf gc g1 g2) ρ N R B C X := by
  with_unfolding_all
    unfold SW
    rw [sif_eq]
    refine OuW.toF (OuW.imp h (fun t ρ1 h => ?_) fun _ _ h => h)
    obtain ⟨b, e, h⟩ := h.of
    rw [e, iteT_some]
    cases b <;> exact h
theorem EW.ifx (h : EW gc ρ (fun t ρ1 => BoW t (EW ga ρ1 P X) (EW gb ρ1 P X)) X) : EW (eIf gc ga gb) ρ P X := by
  with_unfolding_all
    unfold EW
    rw [eif_eq]
    refine OuW.bind (OuW.imp h (fun t ρ1 h => ?_) fun _ _ h => h)
    obtain ⟨b, e, h⟩ := h.of
    rw [e, iteT_some]
    cases b <;> exact h
theorem EW.and (h : EW ga ρ (fun t ρ1 => BoW t (EW gb ρ1 P X) (P (.v .F (.bl false)) ρ1)) X) : EW (eAnd ga gb) ρ P X := by
  with_unfolding_all
    unfold EW
    rw [eand_eq]
    refine OuW.bind (OuW.imp h (fun t ρ1 h => ?_) fun _ _ h => h)
    obtain ⟨b, e, h⟩ := h.of
    rw [e, iteT_some]
    cases b <;> exact h
theorem EW.or (h : EW ga ρ (fun t ρ1 => BoW t (P (.v .F (.bl true)) ρ1) (EW gb ρ1 P X)) X) : EW (eOr ga gb) ρ P X := by
  with_unfolding_all
    unfold EW
    rw [eor_eq]
    refine OuW.bind (OuW.imp h (fun t ρ1 h => ?_) fun _ _ h => h)
    obtain ⟨b, e, h⟩ := h.of
    rw [e, iteT_some]
    cases b <;> exact h
def NotW (t : Tm) (ρ : Ss) (P : Tm → Ss → Prop) : Prop := ∃ b, asB t = some b ∧ P (.v .F (.bl (!b))) ρ
theorem EW.not (h : EW g ρ (fun t ρ1 => NotW t ρ1 P) X) : EW (eNot g) ρ P X := by
  with_unfolding_all
    unfold EW
    rw [enot_eq]
    refine OuW.bind (OuW.imp h (fun t ρ1 h => ?_) fun _ _ h => h)
    obtain ⟨b, e, h⟩ := h
    rw [e]
    exact h
theorem NotW.b {k : Kd} {b : Bool} (h : P (.v .F (.bl (!b))) ρ) : NotW (.v k (.bl b)) ρ P := ⟨b, rfl, h⟩
theorem NotW.d {k : Kd} {p : Prop} [Decidable p] (h : P (.v .F (.bl (decide (¬ p)))) ρ) : NotW (.v k (.bl (decide p))) ρ P := ⟨_, rfl, by rw [← decide_not]; exact h⟩

/-! targets, loops -/
def TW (tg : Tg) (t : Tm) (ρ : Ss) (N : Ss → Prop) : Prop := ∃ ρ1, tg t ρ = some ρ1 ∧ N ρ1
def TsW (tg : Tgs) (ts : List Tm) (ρ : Ss) (N : Ss → Prop) : Prop := ∃ ρ1, tg ts ρ = some ρ1 ∧ N ρ1
theorem TW.n {i : Nat} {ρ2 : Ss} (h1 : isLoc t = false) (h2 : i < ρ.length) (h3 : ρ.set i (some t) = ρ2) (h : N ρ2) : TW (tgN i) t ρ N := ⟨_, by rw [tgN_eq, if_pos ⟨h1, h2⟩, h3], h⟩
theorem TsW.nil (h : N ρ) : TsW tgsNil [] ρ N := ⟨_, rfl, h⟩
theorem TsW.cons {tg : Tg} {tgs : Tgs} {ts : List Tm} (h : TW tg t ρ fun ρ1 => TsW tgs ts ρ1 N) : TsW (tgsCons tg tgs) (t :: ts) ρ N := by
  obtain ⟨ρ1, e, ρ2, e2, h⟩ := h
  exact ⟨ρ2, by rw [tgsCons_eq, e]; exact e2, h⟩
theorem TW.tp {tgs : Tgs} {ts : List Tm} (h : TsW tgs ts ρ N) : TW (tgTup tgs) (.tp ts) ρ N := h
theorem SW.asg {tg : Tg} (h : EW g ρ (fun t ρ1 => TW tg t ρ1 N) X) : SW (sAsg tg g) ρ N R B C X := by
  with_unfolding_all
    unfold SW
    rw [sasg_eq]
    refine OuW.toF (OuW.imp h (fun t ρ1 h => ?_) fun _ _ h => h)
    obtain ⟨ρ2, e, h⟩ := h
    rw [e]
    exact h
def ItsW (t : Tm) (K : List Tm → Prop) : Prop := ∃ ts, itemsT t = some ts ∧ K ts
theorem ItsW.lstF {xs : List D} {K : List Tm → Prop} (h : K (xs.map (Tm.v .F))) : ItsW (.v .F (.lst xs)) K := ⟨_, rfl, h⟩
theorem ItsW.tupF {xs : List D} {K : List Tm → Prop} (h : K (xs.map (Tm.v .F))) : ItsW (.v .F (.tup xs)) K := ⟨_, rfl, h⟩
theorem ItsW.lstB {xs : List D} {K : List Tm → Prop} (h : K (xs.map (Tm.v .B))) : ItsW (.v .B (.lst xs)) K := ⟨_, rfl, h⟩
theorem ItsW.tupB {xs : List D} {K : List Tm → Prop} (h : K (xs.map (Tm.v .B))) : ItsW (.v .B (.tup xs)) K := ⟨_, rfl, h⟩
theorem ItsW.lstO {xs : List D} {K : List Tm → Prop} (h : K (xs.map (Tm.v .F))) : ItsW (.v .O (.lst xs)) K := ⟨_, rfl, h⟩
theorem IW.seq (h : EW g ρ (fun t ρ1 => ItsW t fun ts => PL ts ρ1) X) : IW (itSeq g) ρ PL X := by
  with_unfolding_all
    unfold IW itSeq
    refine OuW.bindL (OuW.imp h (fun t ρ1 h => ?_) fun _ _ h => h)
    obtain ⟨ts, e, h⟩ := h
    rw [e]
    exact h
def R1W (t : Tm) (K : Int → Prop) : Prop := ∃ j, asI t = some j ∧ (-(2 ^ 62) ≤ j ∧ j < 2 ^ 62) ∧ K j
theorem R1W.go {k : Kd} {j : Int} {K : Int → Prop} (hb : -4611686018427387904 ≤ j ∧ j < 4611686018427387904) (h : K j) : R1W (.v k (.int j)) K := ⟨j, rfl, by exact hb, h⟩
theorem IW.r1 (h : EW g ρ (fun t ρ1 => R1W t fun j => PL (rngL 0 j.toNat) ρ1) X) : IW (itR1 g) ρ PL X := by
  with_unfolding_all
    unfold IW itR1
    refine OuW.bindL (OuW.imp h (fun t ρ1 h => ?_) fun _ _ h => h)
    obtain ⟨j, e, hb, h⟩ := h
    rw [e]
    dsimp only
    rw [if_pos hb]
    exact h
@[irreducible] def ForW (tg : Tg) (body : Sm) (ts : List Tm) (ρ : Ss) (N : Ss → Prop) (R : Tm → Ss → Prop) (X : PX) : Prop := FlW (forL tg body ts ρ) N R NoS NoS X
theorem SW.for {it : Iv} {tg : Tg} {body : Sm} (h : IW it ρ (fun ts ρ1 => ForW tg body ts ρ1 N R X) X) : SW (sFor it tg body) ρ N R B C X := by
  with_unfolding_all
    unfold SW sFor
    unfold IW at h
    cases e : it ρ with
    | ok ts ρ1 =>
      rw [e] at h
      dsimp only
      have h : ForW tg body ts ρ1 N R X := h
      unfold ForW at h
      cases e2 : forL tg body ts ρ1 <;> rw [e2] at h <;> first | exact h | exact h.elim
    | ex e' ρ1 => rw [e] at h; exact h
    | no => rw [e] at h; exact h
theorem ForW.nil {tg : Tg} {body : Sm} (h : N ρ) : ForW tg body [] ρ N R X := by with_unfolding_all exact (h)
theorem ForW.cons {tg : Tg} {body : Sm} {ts : List Tm} (h : TW tg t ρ fun ρ1 => SW body ρ1 (fun ρ2 => ForW tg body ts ρ2 N R X) R N (fun ρ2 => ForW tg body ts ρ2 N R X) X) : ForW tg body (t :: ts) ρ N R X := by
  with_unfolding_all
    obtain ⟨ρ1, e, h⟩ := h
    unfold ForW
    unfold SW at h
    simp only [forL, e]
    cases e2 : body ρ1 <;> rw [e2] at h <;> exact h
/-- a loop by what holds after each item -/
theorem ForW.inv {α : Type} {inj : α → Tm} {tg : Tg} {body : Sm} (I : List α → Ss → Prop) : ∀ (xs : List α) (pre : List α) {ρ : Ss}, I pre ρ →
    (∀ a p x q ρ, a = pre ++ xs → a = p ++ x :: q → I p ρ → TW tg (inj x) ρ fun ρ1 => SW body ρ1 (fun ρ2 => I (p ++ [x]) ρ2) R N (fun ρ2 => I (p ++ [x]) ρ2) X) → (∀ ρ, I (pre ++ xs) ρ → N ρ) → ForW tg body (xs.map inj) ρ N R X
  | [], pre, ρ, h0, hs, he => by with_unfolding_all exact (he ρ (by rw [List.append_nil]; exact h0))
  | x :: xs, pre, ρ, h0, hs, he => by
    with_unfolding_all
      refine ForW.cons ?_
      obtain ⟨ρ1, e1, h1⟩ := hs _ pre x xs ρ rfl rfl h0
      refine ⟨ρ1, e1, ?_⟩
      have go : ∀ ρ2, I (pre ++ [x]) ρ2 → ForW tg body (xs.map inj) ρ2 N R X := fun ρ2 h2 => ForW.inv I xs (pre ++ [x]) h2 (fun a p y q ρ ha hp => hs a p y q ρ (by rw [ha, List.append_assoc]; rfl) hp) (fun ρ h => he ρ (by rw [List.append_assoc] at h; exact h))
      unfold SW at h1
      show FlW (body ρ1) _ _ _ _ _
      cases e2 : body ρ1 <;> rw [e2] at h1 <;> first | exact go _ h1 | exact h1
/-- by the number of items done -/
theorem ForW.num {tg : Tg} {body : Sm} (I : Nat → Ss → Prop) : ∀ (ts : List Tm) (n : Nat) {ρ : Ss}, I n ρ →
    (∀ i t ρ, ts[i]? = some t → I (n + i) ρ → TW tg t ρ fun ρ1 => SW body ρ1 (fun ρ2 => I (n + i + 1) ρ2) R N (fun ρ2 => I (n + i + 1) ρ2) X) → (∀ ρ, I (n + ts.length) ρ → N ρ) → ForW tg body ts ρ N R X
  | [], n, ρ, h0, hs, he => by with_unfolding_all exact (he ρ h0)
  | t :: ts, n, ρ, h0, hs, he => by
    with_unfolding_all
      refine ForW.cons ?_
      obtain ⟨ρ1, e1, h1⟩ := hs 0 t ρ rfl h0
      refine ⟨ρ1, e1, ?_⟩
      have go : ∀ ρ2, I (n + 1) ρ2 → ForW tg body ts ρ2 N R X := fun ρ2 h2 => ForW.num I ts (n + 1) h2 (fun i u ρ hu hI => by
        have := hs (i + 1) u ρ (by simpa using hu) (by rw [show n + (i + 1) = n + 1 + i by omega]; exact hI)
        rw [show n + (i + 1) + 1 = n + 1 + i + 1 by omega] at this
        exact this) (fun ρ h => he ρ (by rw [List.length_cons, show n + (ts.length + 1) = n + 1 + ts.length by omega]; exact h))
      unfold SW at h1
      show FlW (body ρ1) _ _ _ _ _
      cases e2 : body ρ1 <;> rw [e2] at h1 <;> first | exact go _ h1 | exact h1
end
/-! comprehensions -/
section
variable {ρ : Ss} {P P' : Tm → Ss → Prop} {X X' : PX} {test elt : Ev} {tg : Tg} {vs : List Nat} {it : Iv}
def CoW (tg : Tg) (test elt : Ev) (vs : List Nat) (ts : List Tm) (ρ : Ss) (K : List D → Ss → Prop) : Prop := ∃ ds ρ', compL tg test elt vs ts ρ = some (ds, ρ') ∧ K ds ρ'
theorem EW.comp (h : IW it ρ (fun ts ρ1 => vs.all (hideOk ρ1) = true ∧ CoW tg test elt vs ts ρ1 fun ds ρ2 => ds.length ≤ sizeLine ∧ ∃ ρ3, restS ρ1 ρ2 vs = ρ3 ∧ P (.v .O (.lst ds)) ρ3) X) : EW (eComp it vs tg test elt) ρ P X := by
  with_unfolding_all
    unfold EW eComp
    unfold IW at h
    cases e : it ρ with
    | ok ts ρ1 =>
      rw [e] at h
      obtain ⟨h1, ds, ρ2, h2, h3, _, rfl, h4⟩ := h
      dsimp only
      rw [if_pos h1, h2]
      dsimp only
      rw [if_pos h3]
      exact h4
    | ex e' ρ1 => rw [e] at h; exact h
    | no => rw [e] at h; exact h
theorem CoW.nil {K : List D → Ss → Prop} {ρ1 : Ss} (hw : wipeS ρ vs = ρ1) (h : K [] ρ1) : CoW tg test elt vs [] ρ K := ⟨[], _, by simp only [compL, hw], h⟩
def FzD (t : Tm) (K : D → Prop) : Prop := ∃ d, frz t = some d ∧ K d
theorem FzD.F {d : D} {K : D → Prop} (h : K d) : FzD (.v .F d) K := ⟨d, frz_F, h⟩
theorem FzD.O {d : D} {K : D → Prop} (h : K d) : FzD (.v .O d) K := ⟨d, frz_O, h⟩
theorem CoW.cons {K : List D → Ss → Prop} {t : Tm} {ts : List Tm} {ρ1 : Ss} (hw : wipeS ρ vs = ρ1)
    (h : TW tg t ρ1 fun ρ2 => EW test ρ2 (fun b ρ3 => BoW b (EW elt ρ3 (fun x ρ4 => FzD x fun d => CoW tg test elt vs ts ρ4 fun ds ρ5 => K (d :: ds) ρ5) X0) (CoW tg test elt vs ts ρ3 K)) X0) : CoW tg test elt vs (t :: ts) ρ K := by
  with_unfolding_all
    obtain ⟨ρ2, e2, h⟩ := h
    obtain ⟨b, ρ3, e3, h⟩ := EW.get h
    obtain ⟨bb, eb, h⟩ := h.of
    subst hw
    cases bb with
    | true =>
      obtain ⟨x, ρ4, e4, d, e5, ds, ρ5, e6, h⟩ := EW.get h
      exact ⟨d :: ds, ρ5, by simp only [compL, e2, e3, eb, e4, e5, e6], h⟩
    | false =>
      obtain ⟨ds, ρ5, e6, h⟩ := h
      exact ⟨ds, ρ5, by simp only [compL, e2, e3, eb, e6], h⟩
end
end PV

namespace PV
open PySem L2
theorem ltL {i l : Nat} (h : Nat.blt i l = true) : i < l := by simpa [Nat.blt_eq] using h
theorem ix0 {n : Nat} (h : Nat.blt 0 n = true) : ixN n 0 = some 0 := by
  have := ltL h
  unfold ixN
  rw [if_pos (by omega), if_pos (by omega)]
  rfl
theorem ix1 {n : Nat} (h : Nat.blt 1 n = true) : ixN n 1 = some 1 := by
  have := ltL h
  unfold ixN
  rw [if_pos (by omega), if_pos (by omega)]
  rfl
theorem set_z {α : Type} {a v : α} {l : List α} : (a :: l).set 0 v = v :: l := rfl
theorem set_s {α : Type} {a v : α} {l l' : List α} {n : Nat} (h : l.set n v = l') : (a :: l).set (n + 1) v = a :: l' := by rw [List.set_cons_succ, h]
theorem and3 {a b : Prop} {x : Ss} {N : Ss → Prop} {ρ2 : Ss} (h1 : a) (h2 : b) (h3 : x = ρ2) (h : N ρ2) : a ∧ b ∧ ∃ ρ2, x = ρ2 ∧ N ρ2 := ⟨h1, h2, _, h3, h⟩
section
variable {ρ : Ss} {P P' : Tm → Ss → Prop} {X X' : PX} {g ga gb gc g0 : Ev} {gs gk : Ss → OuL} {N N' : Ss → Prop} {R R' : Tm → Ss → Prop} {B C B' C' : Ss → Prop} {t u : Tm} {PL PL' : List Tm → Ss → Prop}
/-- the name at i holds t -/
def VarW (t : Tm) (i : Nat) (ρ : Ss) (P : Tm → Ss → Prop) : Prop := match t with
  | .v .O d => P (.loc i) ρ
  | .v k d => P (.v k d) ρ
  | _ => P (.loc i) ρ
theorem EW.var {i : Nat} (h : ρ[i]? = some (some t)) (p : VarW t i ρ P) : EW (eVar i) ρ P X := by
  with_unfolding_all
    cases t with
    | v k d => cases k <;> exact EW.ok (by rw [var_eq, h]) p
    | _ => exact EW.ok (by rw [var_eq, h]) p
theorem VarW.xF {i : Nat} {d : D} (h : P (.v .F d) ρ) : VarW (.v .F d) i ρ P := h
theorem VarW.xB {i : Nat} {d : D} (h : P (.v .B d) ρ) : VarW (.v .B d) i ρ P := h
theorem VarW.xO {i : Nat} {d : D} (h : P (.loc i) ρ) : VarW (.v .O d) i ρ P := h
/-! calls -/
def PuW (ts : List Tm) (ms : List Md) (ρ : Ss) (K : List Tm → Ss → Prop) : Prop := ∃ us ρ2, pullT ts ms ρ = some (us, ρ2) ∧ K us ρ2
def PaW (ts : List Tm) (ms : List Md) (us : List Tm) (ρ : Ss) (K : List Tm → Prop) : Prop := ∃ ps, paramsT ts ms us ρ = some ps ∧ K ps
def PtW (ts : List Tm) (ms : List Md) (us : List Tm) (ρ : Ss) (K : Ss → Prop) : Prop := ∃ ρ3, putT ts ms us ρ = some ρ3 ∧ K ρ3
@[irreducible] def CaW (f : Fn) (ms : List Md) (ts : List Tm) (ρ : Ss) (P : Tm → Ss → Prop) (X : PX) : Prop := OuW (callF f ms ts ρ) P X
theorem FoW.imp {o : Fo} {P P' : Tm → List Tm → Prop} {X X' : Er → List Tm → Prop} (h : FoW o P X) (i : ∀ t ρ, P t ρ → P' t ρ) (j : ∀ e ρ, X e ρ → X' e ρ) : FoW o P' X' := by
  cases o with
  | ok t ρ => exact i _ _ h
  | ex e ρ => exact j _ _ h
  | no => exact h
theorem FW.imp {f : Fn} {ts : List Tm} {P P' : Tm → List Tm → Prop} {X X' : Er → List Tm → Prop} (h : FW f ts P X) (i : ∀ t ρ, P t ρ → P' t ρ) (j : ∀ e ρ, X e ρ → X' e ρ) : FW f ts P' X' := by with_unfolding_all exact (FoW.imp h i j)
theorem CaW.go {f : Fn} {ms : List Md} {ts : List Tm} (h : PuW ts ms ρ fun us ρ2 => PaW ts ms us ρ2 fun ps => FW f ps (fun r vs => PtW ts ms vs ρ2 fun ρ3 => P r ρ3) (fun e vs => PtW ts ms vs ρ2 fun ρ3 => X e ρ3)) : CaW f ms ts ρ P X := by
  with_unfolding_all
    obtain ⟨us, ρ2, h1, ps, h2, h3⟩ := h
    unfold CaW callF
    simp only [h1, h2]
    unfold FW at h3
    cases e : f ps with
    | ok r vs => rw [e] at h3; obtain ⟨ρ3, h4, h5⟩ := h3; simp only [h4]; exact h5
    | ex r vs => rw [e] at h3; obtain ⟨ρ3, h4, h5⟩ := h3; simp only [h4]; exact h5
    | no => rw [e] at h3; exact h3
theorem EW.call {f : Fn} {ms : List Md} (h : AW gs ρ (fun ts ρ1 => CaW f ms ts ρ1 P X) X) : EW (eCall f ms gs) ρ P X := by
  with_unfolding_all
    unfold EW
    rw [call_eq]
    exact OlW.bind h
theorem PuW.nil {K : List Tm → Ss → Prop} (h : K [] ρ) : PuW [] [] ρ K := ⟨[], ρ, by simp only [pullT], h⟩
theorem PuW.b {K : List Tm → Ss → Prop} {ts : List Tm} {ms : List Md} (h : PuW ts ms ρ K) : PuW (t :: ts) (.b :: ms) ρ K := by
  obtain ⟨us, ρ2, h1, h2⟩ := h
  exact ⟨us, ρ2, by simp only [pullT, h1], h2⟩
theorem PuW.f {K : List Tm → Ss → Prop} {ts : List Tm} {ms : List Md} (h : PuW ts ms ρ K) : PuW (t :: ts) (.f :: ms) ρ K := by
  obtain ⟨us, ρ2, h1, h2⟩ := h
  exact ⟨us, ρ2, by simp only [pullT, h1], h2⟩
theorem PuW.io {K : List Tm → Ss → Prop} {ts : List Tm} {ms : List Md} {i : Nat} {ρ1 : Ss} (h0 : ρ[i]? = some (some u)) (hs : ρ.set i none = ρ1) (h : PuW ts ms ρ1 fun us ρ2 => K (u :: us) ρ2) : PuW (.loc i :: ts) (.io :: ms) ρ K := by
  obtain ⟨us, ρ2, h1, h2⟩ := h
  subst hs
  exact ⟨u :: us, ρ2, by simp only [pullT, h0, h1], h2⟩
theorem PaW.nil {K : List Tm → Prop} (h : K []) : PaW [] [] [] ρ K := ⟨[], by simp only [paramsT], h⟩
theorem PaW.io {K : List Tm → Prop} {ts us : List Tm} {ms : List Md} (h : PaW ts ms us ρ fun ps => K (u :: ps)) : PaW (t :: ts) (.io :: ms) (u :: us) ρ K := by
  obtain ⟨ps, h1, h2⟩ := h
  exact ⟨u :: ps, by simp only [paramsT, h1, Option.map_some], h2⟩
theorem PaW.b {K : List Tm → Prop} {ts us : List Tm} {ms : List Md} {k : Kd} {d : D} (hd : Is ρ t k d) (h : PaW ts ms us ρ fun ps => K (.v .B d :: ps)) : PaW (t :: ts) (.b :: ms) us ρ K := by
  obtain ⟨ps, h1, h2⟩ := h
  exact ⟨_, by simp only [paramsT, show derT ρ t = _ from hd, h1, toD_v], h2⟩
theorem PaW.fF {K : List Tm → Prop} {ts us : List Tm} {ms : List Md} {d : D} (h : PaW ts ms us ρ fun ps => K (.v .F d :: ps)) : PaW (.v .F d :: ts) (.f :: ms) us ρ K := by
  obtain ⟨ps, h1, h2⟩ := h
  exact ⟨_, by simp only [paramsT, h1], h2⟩
theorem PtW.nil {K : Ss → Prop} (h : K ρ) : PtW [] [] [] ρ K := ⟨ρ, by simp only [putT], h⟩
theorem PtW.b {K : Ss → Prop} {ts us : List Tm} {ms : List Md} (h : PtW ts ms us ρ K) : PtW (t :: ts) (.b :: ms) us ρ K := by
  obtain ⟨ps, h1, h2⟩ := h
  exact ⟨_, by simp only [putT, h1], h2⟩
theorem PtW.f {K : Ss → Prop} {ts us : List Tm} {ms : List Md} (h : PtW ts ms us ρ K) : PtW (t :: ts) (.f :: ms) us ρ K := by
  obtain ⟨ps, h1, h2⟩ := h
  exact ⟨_, by simp only [putT, h1], h2⟩
theorem PtW.io {K : Ss → Prop} {ts us : List Tm} {ms : List Md} {i : Nat} {ρ1 : Ss} (hl : i < ρ.length) (hs : ρ.set i (some u) = ρ1) (h : PtW ts ms us ρ1 K) : PtW (.loc i :: ts) (.io :: ms) (u :: us) ρ K := by
  obtain ⟨ps, h1, h2⟩ := h
  subst hs
  exact ⟨_, by simp only [putT, hl, if_true, h1], h2⟩
/-! a def's body -/
def GiW (ρ : Ss) (ios : List Nat) (K : List Tm → Prop) : Prop := ∃ us, getIo ρ ios = some us ∧ K us
def UnW (t : Tm) (K : Tm → Prop) : Prop := ∃ u, unB t = some u ∧ K u
theorem GiW.nil {K : List Tm → Prop} (h : K []) : GiW ρ [] K := ⟨[], rfl, h⟩
theorem GiW.cons {K : List Tm → Prop} {i : Nat} {is : List Nat} {ρ1 : Ss} (h0 : ρ[i]? = some (some t)) (hs : ρ.set i none = ρ1) (h : UnW t fun u => GiW ρ1 is fun us => K (u :: us)) : GiW ρ (i :: is) K := by
  obtain ⟨u, hu, us, h1, h2⟩ := h
  subst hs
  exact ⟨u :: us, by rw [getIo_cons]; simp only [h0, hu, h1], h2⟩
theorem UnW.get {K : Tm → Prop} (h : UnW t K) : ∃ u, unB t = some u ∧ K u := h
theorem UnW.of {K : Tm → Prop} (hu : unB t = some u) (h : K u) : UnW t K := ⟨u, hu, h⟩
theorem UnW.imp {K K' : Tm → Prop} (h : UnW t K) (i : ∀ u, K u → K' u) : UnW t K' := let ⟨u, hu, h⟩ := h; ⟨u, hu, i u h⟩
theorem UnW.xF {K : Tm → Prop} {d : D} (h : K (.v .F d)) : UnW (.v .F d) K := ⟨_, unB_F, h⟩
theorem UnW.xO {K : Tm → Prop} {d : D} (h : K (.v .O d)) : UnW (.v .O d) K := ⟨_, unB_O, h⟩
theorem FW.def {n : Nat} {ios : List Nat} {body : Sm} {ts : List Tm} {ρ0 : Ss} {P : Tm → List Tm → Prop} {X : Er → List Tm → Prop} (hρ : ts.map some ++ List.replicate (n - ts.length) none = ρ0)
    (h : SW body ρ0 (fun ρ => GiW ρ ios fun us => P (.v .F .non) us) (fun t ρ => UnW t fun t' => GiW ρ ios fun us => P t' us) NoS NoS (fun e ρ => GiW ρ ios fun us => X e us)) : FW (defn n ios body) ts P X := by
  with_unfolding_all
    unfold FW
    rw [defn_eq, hρ]
    unfold SW at h
    unfold endF
    cases e : body ρ0 with
    | nx ρ => rw [e] at h; obtain ⟨us, h1, h2⟩ := h; simp only [h1]; exact h2
    | rt t ρ => rw [e] at h; obtain ⟨t', h0, us, h1, h2⟩ := h; simp only [h0, h1]; exact h2
    | ex e' ρ => rw [e] at h; obtain ⟨us, h1, h2⟩ := h; simp only [h1]; exact h2
    | bk ρ => rw [e] at h; exact h.elim
    | ct ρ => rw [e] at h; exact h.elim
    | no => rw [e] at h; exact h.elim
theorem FW.get {f : Fn} {ts : List Tm} {P : Tm → List Tm → Prop} (h : FW f ts P XF0) : ∃ t us, f ts = .ok t us ∧ P t us := by
  with_unfolding_all
    unfold FW at h
    cases e : f ts with
    | ok t us => rw [e] at h; exact ⟨t, us, rfl, h⟩
    | ex a b => rw [e] at h; exact h.elim
    | no => rw [e] at h; exact h.elim
theorem FW.of {f : Fn} {ts us : List Tm} {P : Tm → List Tm → Prop} {X : Er → List Tm → Prop} (h : f ts = .ok t us) (p : P t us) : FW f ts P X := by with_unfolding_all (unfold FW; rw [h]; exact p)

/-! objects -/
/-- the modes of a constructor: none to be given back -/
def noIo (ms : List Md) : Bool := ms.all fun m => match m with | .io => false | _ => true
theorem pull_no : ∀ {ts : List Tm} {ms : List Md}, noIo ms = true → ts.length = ms.length → pullT ts ms ρ = some ([], ρ)
  | [], [], _, _ => by simp only [pullT]
  | t :: ts, .io :: ms, h, _ => by simp [noIo] at h
  | t :: ts, .b :: ms, h, hl => by simp only [pullT]; exact pull_no (by simpa [noIo] using h) (by simpa using hl)
  | t :: ts, .f :: ms, h, hl => by simp only [pullT]; exact pull_no (by simpa [noIo] using h) (by simpa using hl)
theorem put_no : ∀ {ts : List Tm} {ms : List Md}, noIo ms = true → ts.length = ms.length → putT ts ms [] ρ = some ρ
  | [], [], _, _ => by simp only [putT]
  | t :: ts, .io :: ms, h, _ => by simp [noIo] at h
  | t :: ts, .b :: ms, h, hl => by simp only [putT]; exact put_no (by simpa [noIo] using h) (by simpa using hl)
  | t :: ts, .f :: ms, h, hl => by simp only [putT]; exact put_no (by simpa [noIo] using h) (by simpa using hl)
theorem der_app {x : Tm} {σ : Ss} (h : derT ρ t = some x) : derT (ρ ++ σ) t = some x := by
  cases t with
  | loc i =>
    simp only [derT] at h ⊢
    have hl : i < ρ.length := by
      rcases Nat.lt_or_ge i ρ.length with q | q
      · exact q
      · rw [List.getElem?_eq_none q] at h; cases h
    rw [List.getElem?_append_left hl]
    exact h
  | v k d => exact h
  | tp _ => exact h
  | ls _ => exact h
  | ob _ _ => exact h
theorem params_app {σ : Ss} : ∀ {ts : List Tm} {ms : List Md} {us ps : List Tm}, paramsT ts ms us ρ = some ps → paramsT ts ms us (ρ ++ σ) = some ps
  | [], [], [], ps, h => by simpa only [paramsT] using h
  | t :: ts, .io :: ms, u :: us, ps, h => by
    simp only [paramsT, Option.map_eq_some_iff] at h ⊢
    obtain ⟨qs, h, rfl⟩ := h
    exact ⟨qs, params_app h, rfl⟩
  | t :: ts, .b :: ms, us, ps, h => by
    simp only [paramsT] at h ⊢
    cases e : derT ρ t with
    | none => simp [e] at h
    | some x =>
      cases e2 : paramsT ts ms us ρ with
      | none => simp [e, e2] at h
      | some qs =>
        simp only [e, e2] at h
        simp only [der_app e, params_app e2]
        exact h
  | t :: ts, .f :: ms, us, ps, h => by
    simp only [paramsT] at h ⊢
    cases e2 : paramsT ts ms us ρ with
    | none => rw [e2] at h; split at h <;> simp_all
    | some qs =>
      rw [e2] at h
      rw [params_app e2]
      exact h
  | [], _ :: _, us, ps, h => by simp [paramsT] at h
  | [], [], u :: us, ps, h => by simp [paramsT] at h
  | t :: ts, [], us, ps, h => by simp [paramsT] at h
  | t :: ts, .io :: ms, [], ps, h => by simp [paramsT] at h
@[irreducible] def MkW (c : Nat) (f : Fn) (ms : List Md) (ts : List Tm) (ρ : Ss) (P : Tm → Ss → Prop) (X : PX) : Prop := OuW (mkF c f ms ts ρ) P X
theorem MkW.go {c : Nat} {f : Fn} {ms : List Md} {ts : List Tm} (hn : noIo ms = true) (hl : ts.length = ms.length)
    (h : PaW ts ms [] ρ fun ps => FW f (.ob c [] :: ps) (fun r vs => ∃ u, vs = [u] ∧ isNonT r = true ∧ P u ρ) (fun e vs => (∃ u, vs = [u]) ∧ X e ρ)) : MkW c f ms ts ρ P X := by
  with_unfolding_all
    obtain ⟨ps, h1, h2⟩ := h
    have e1 : (ρ ++ [some (Tm.ob c [])])[ρ.length]? = some (some (.ob c [])) := by simp
    have e2 : (ρ ++ [some (Tm.ob c [])]).set ρ.length none = ρ ++ [none] := by simp
    have hlt : ρ.length < (ρ ++ [(none : Option Tm)]).length := by simp
    have p1 : pullT (.loc ρ.length :: ts) (.io :: ms) (ρ ++ [some (.ob c [])]) = some ([.ob c []], ρ ++ [none]) := by simp only [pullT, e1, e2, pull_no hn hl]
    have p2 : paramsT (.loc ρ.length :: ts) (.io :: ms) [.ob c []] (ρ ++ [none]) = some (.ob c [] :: ps) := by simp only [paramsT, params_app h1, Option.map_some]
    have p3 : ∀ u, putT (.loc ρ.length :: ts) (.io :: ms) [u] (ρ ++ [none]) = some (ρ ++ [some u]) := fun u => by
      simp only [putT, hlt, if_true, put_no hn hl]
      simp
    have e4 : ∀ u : Tm, (ρ ++ [some u]).take ρ.length = ρ := fun u => by simp
    have e6 : ∀ u : Tm, (ρ ++ [some u])[ρ.length]? = some (some u) := fun u => by simp
    unfold MkW mkF callF
    simp only [p1, p2]
    unfold FW at h2
    cases e : f (.ob c [] :: ps) with
    | ok r vs =>
      rw [e] at h2
      obtain ⟨u, rfl, hr, hp⟩ := h2
      simp only [p3, hr, if_true, e6, e4]
      exact hp
    | ex r vs =>
      rw [e] at h2
      obtain ⟨⟨u, rfl⟩, hp⟩ := h2
      simp only [p3, e4]
      exact hp
    | no => rw [e] at h2; exact h2
/-- a field -/
def FldW (c j : Nat) (t : Tm) (ρ : Ss) (P : Tm → Ss → Prop) : Prop := O1W (fldT c j) t ρ P
theorem FldW.ob {c j i : Nat} {ts : List Tm} {d : D} (h : ρ[i]? = some (some (.ob c ts))) (hj : ts[j]? = some (.v .F d)) (p : P (.v .F d) ρ) : FldW c j (.loc i) ρ P := ⟨.ob c ts, _, by simp only [derT, h], by simp only [fldT, if_true, hj], p⟩
/-! lists -/
def LmW (op : List D → List D → Option (D × List D)) (i : Nat) (ds : List D) (ρ1 : Ss) (P : Tm → Ss → Prop) : Prop := ∃ xs x xs', ρ1[i]? = some (some (.v .O (.lst xs))) ∧ op xs ds = some (x, xs') ∧ xs'.length ≤ sizeLine ∧ ∃ ρ2, ρ1.set i (some (.v .O (.lst xs'))) = ρ2 ∧ P (.v .F x) ρ2
theorem EW.lm {op : List D → List D → Option (D × List D)} {i : Nat} (hl : isLs ρ i = true) (h : AW gs ρ (fun ts ρ1 => FzsW ts fun ds => LmW op i ds ρ1 P) X) : EW (eLm op i gs) ρ P X := by
  with_unfolding_all
    unfold EW eLm
    rw [if_pos hl]
    refine OlW.bind (OlW.imp h fun ts ρ1 h => ?_)
    obtain ⟨ds, e1, xs, x, xs', e2, e3, e4, _, rfl, h⟩ := h
    simp only [e1, e2, e3]
    rw [if_pos e4]
    exact h
def IdxW (t u : Tm) (ρ : Ss) (P : Tm → Ss → Prop) : Prop := O2W opIdx t u ρ P
theorem EW.idx (h : EW ga ρ (fun t ρ1 => EW gb ρ1 (fun u ρ2 => IdxW t u ρ2 P) X) X) : EW (eIdx ga gb) ρ P X := by with_unfolding_all exact (EW.op2 h)
theorem IdxW.lst {k l : Kd} {xs : List D} {i : Int} {d : D} (h1 : Is ρ t k (.lst xs)) (h2 : Is ρ u l (.int i)) (h3 : atI xs i = some d) (p : P (subK k d) ρ) : IdxW t u ρ P := ⟨_, _, _, h1, h2, by simp only [opIdx, idxV, h3, Option.map_some], p⟩
theorem IdxW.tup {k l : Kd} {xs : List D} {i : Int} {d : D} (h1 : Is ρ t k (.tup xs)) (h2 : Is ρ u l (.int i)) (h3 : atI xs i = some d) (p : P (subK k d) ρ) : IdxW t u ρ P := ⟨_, _, _, h1, h2, by simp only [opIdx, idxV, h3, Option.map_some], p⟩
theorem IdxW.lB {l : Kd} {xs : List D} {i : Int} {d : D} (h1 : Is ρ t .B (.lst xs)) (h2 : Is ρ u l (.int i)) (h3 : atI xs i = some d) (p : P (.v .B d) ρ) : IdxW t u ρ P := IdxW.lst h1 h2 h3 p
theorem IdxW.lF {l : Kd} {xs : List D} {i : Int} {d : D} (h1 : Is ρ t .F (.lst xs)) (h2 : Is ρ u l (.int i)) (h3 : atI xs i = some d) (p : P (.v .F d) ρ) : IdxW t u ρ P := IdxW.lst h1 h2 h3 p
theorem IdxW.lO {l : Kd} {xs : List D} {i : Int} {d : D} (h1 : Is ρ t .O (.lst xs)) (h2 : Is ρ u l (.int i)) (h3 : atI xs i = some d) (p : P (.v .F d) ρ) : IdxW t u ρ P := IdxW.lst h1 h2 h3 p
theorem IdxW.tF {l : Kd} {xs : List D} {i : Int} {d : D} (h1 : Is ρ t .F (.tup xs)) (h2 : Is ρ u l (.int i)) (h3 : atI xs i = some d) (p : P (.v .F d) ρ) : IdxW t u ρ P := IdxW.tup h1 h2 h3 p
theorem IdxW.scr {k l : Kd} {xs : List Int} {i : Int} {d : Int} (h1 : Is ρ t k (.scr xs)) (h2 : Is ρ u l (.int i)) (h3 : atI xs i = some d) (p : P (.v .F (.int d)) ρ) : IdxW t u ρ P := ⟨_, _, _, h1, h2, by simp only [opIdx, idxV, h3, Option.map_some], p⟩
theorem atN {α : Type} {xs : List α} {i : Nat} {x : α} (h : xs[i]? = some x) : atI xs (i : Int) = some x := by
  have hl := (List.getElem?_eq_some_iff.mp h).1
  unfold atI ixN
  rw [if_pos (by omega), if_pos (by omega)]
  exact h
theorem TW.sub {i : Nat} {gi : Ev} (hl : isLs ρ i = true) (h : EW gi ρ (fun u ρ2 => I1W u ρ2 fun k => FzD t fun d => ∃ xs j, ρ2[i]? = some (some (.v .O (.lst xs))) ∧ ixN xs.length k = some j ∧ ∃ ρ3, ρ2.set i (some (.v .O (.lst (xs.set j d)))) = ρ3 ∧ N ρ3) X0) : TW (tgSub i gi) t ρ N := by
  with_unfolding_all
    obtain ⟨u, ρ2, e, k, kk, hk, d, hd, xs, j, h1, h2, ρ3, rfl, h⟩ := EW.get h
    refine ⟨_, ?_, h⟩
    unfold tgSub
    rw [if_pos hl, e]
    simp only [h1, show derT ρ2 u = _ from hk, hd, h2]
theorem sub5 {xs xs' : List D} {i j : Nat} {k : Int} {d : D} {ρ1 ρ3 : Ss} {N : Ss → Prop} (h1 : ρ1[i]? = some (some (.v .O (.lst xs)))) (h2 : ixN xs.length k = some j) (h3 : xs.set j d = xs') (h4 : ρ1.set i (some (.v .O (.lst xs'))) = ρ3) (h : N ρ3) :
    ∃ xs j, ρ1[i]? = some (some (.v .O (.lst xs))) ∧ ixN xs.length k = some j ∧ ∃ ρ3, ρ1.set i (some (.v .O (.lst (xs.set j d)))) = ρ3 ∧ N ρ3 := by
  subst h3 h4
  exact ⟨xs, j, h1, h2, _, rfl, h⟩
theorem lm5 {op : List D → List D → Option (D × List D)} {i : Nat} {ds xs xs' : List D} {x : D} {ρ1 ρ2 : Ss} (h1 : ρ1[i]? = some (some (.v .O (.lst xs)))) (h2 : op xs ds = some (x, xs')) (h3 : xs'.length ≤ sizeLine) (h4 : ρ1.set i (some (.v .O (.lst xs'))) = ρ2) (h : P (.v .F x) ρ2) : LmW op i ds ρ1 P := ⟨xs, x, xs', h1, h2, h3, ρ2, h4, h⟩
theorem EW.abs (h : EW g ρ (fun t ρ1 => I1W t ρ1 fun i => P (.v .F (.int (if i < 0 then -i else i))) ρ1) X) : EW (eAbs g) ρ P X := by with_unfolding_all exact (EW.op1 (EW.imp h fun t ρ1 h => by
  obtain ⟨i, k, h1, h2⟩ := h
  exact rd1_is h1 rfl h2))
theorem EW.pow (h : EW ga ρ (fun t ρ1 => EW gb ρ1 (fun u ρ2 => IIW t u ρ2 fun i j => ∃ r, powI i j = some r ∧ P (.v .F (.int r)) ρ2) X) X) : EW (ePow ga gb) ρ P X := by with_unfolding_all exact (EW.op2 (E2W.imp h fun t u ρ h => by
  obtain ⟨i, j, k, l, h1, h2, r, h3, h4⟩ := h
  exact rd2_is h1 h2 (by simp only [dI2, h3, Option.map_some]) h4))
theorem pow18 : powI 10 18 = some 1000000000000000000 := by
  unfold powI
  rw [if_pos (by decide), show (18 : Int).toNat = 18 from rfl]
  simp
theorem SW.par {is : List Nat} (h : AW gs ρ (fun ts ρ1 => ∃ ρ2, stAll is ts ρ1 = some ρ2 ∧ N ρ2) X) : SW (sPar is gs) ρ N R B C X := by
  with_unfolding_all
    unfold SW sPar
    unfold AW at h
    cases e : gs ρ with
    | ok ts ρ1 => rw [e] at h; obtain ⟨ρ2, e2, h⟩ := h; simp only [e2]; exact h
    | ex a b => rw [e] at h; exact h
    | no => rw [e] at h; exact h
theorem EW.len (h : EW g ρ (fun t ρ1 => O1W (rd1 lenD) t ρ1 P) X) : EW (eLen g) ρ P X := by with_unfolding_all exact (EW.op1 h)
theorem len_lst {k : Kd} {xs : List D} (h1 : Is ρ t k (.lst xs)) (p : P (.v .F (.int xs.length)) ρ) : O1W (rd1 lenD) t ρ P := rd1_is h1 rfl p
theorem len_tup {k : Kd} {xs : List D} (h1 : Is ρ t k (.tup xs)) (p : P (.v .F (.int xs.length)) ρ) : O1W (rd1 lenD) t ρ P := rd1_is h1 rfl p
theorem len_scr {k : Kd} {xs : List Int} (h1 : Is ρ t k (.scr xs)) (p : P (.v .F (.int xs.length)) ρ) : O1W (rd1 lenD) t ρ P := rd1_is h1 rfl p
end
end PV

namespace PV
open PySem L2
local macro_rules | `(tactic| walk_at "set") => `(tactic| (repeat (first | exact set_z | apply set_s)))
local macro_rules | `(tactic| walk_at "is") => `(tactic| (first | exact Is.v | exact Is.loc rfl))
local macro_rules | `(tactic| walk_at "lt") => `(tactic| first | exact ltL rfl | omega | (simp only [List.length_cons, List.length_nil]; omega))
local macro_rules | `(tactic| walk_at "sz") => `(tactic| first | omega | (simp only [sizeLine_eq, List.length_append, List.length_cons, List.length_nil, List.length_map, List.length_replicate, List.length_reverse] at *; omega))
local macro_rules | `(tactic| walk_at "w1") => `(tactic| (first
  | (with_reducible refine EW.c ?_) | (with_reducible refine EW.n ?_) | (with_reducible refine EW.tr ?_) | ((with_reducible apply EW.var); (focus (exact rfl))) | (with_reducible refine VarW.xF ?_) | (with_reducible refine VarW.xB ?_) | (with_reducible refine VarW.xO ?_) | (with_reducible refine VarW.xOb ?_)
  | (with_reducible refine SW.seq ?_) | ((with_reducible refine SW.set ?_)) | (with_reducible refine SW.ite ?_) | (with_reducible refine SW.ret ?_) | (with_reducible refine SW.asg ?_) | (with_reducible refine SW.nil ?_) | (with_reducible refine SW.expr ?_) | (with_reducible refine SW.for ?_) | (with_reducible refine SW.fst ?_) | (with_reducible refine SW.par ?_)
  | (with_reducible refine EW.gt ?_) | (with_reducible refine EW.lt ?_) | (with_reducible refine EW.le ?_) | (with_reducible refine EW.ge ?_) | (with_reducible refine EW.mod ?_) | (with_reducible refine EW.div ?_) | (with_reducible refine EW.sub ?_) | (with_reducible refine EW.add ?_) | (with_reducible refine EW.mul ?_) | (with_reducible refine EW.idx ?_) | (with_reducible refine EW.max2 ?_) | (with_reducible refine EW.min2 ?_) | (with_reducible refine EW.len ?_) | (with_reducible refine EW.call ?_) | (with_reducible refine EW.meth ?_) | (with_reducible refine EW.prop ?_) | (with_reducible refine EW.make ?_) | (with_reducible refine EW.fld ?_) | (with_reducible refine EW.ifx ?_) | (with_reducible refine EW.and ?_) | (with_reducible refine EW.or ?_) | (with_reducible refine EW.not ?_) | (with_reducible refine EW.tup ?_) | (with_reducible refine EW.lst ?_) | (with_reducible refine EW.comp ?_)
  | (with_reducible refine EW.mv ?_) | (with_reducible refine EW.fz ?_) | (with_reducible refine FzW.F ?_) | (with_reducible refine FzW.O ?_) | ((with_reducible refine FzW.Bx ?_ ?_); (focus (exact flat_int))) | ((with_reducible refine FzW.Bx ?_ ?_); (focus (exact flat_str))) | ((with_reducible apply FzW.loc); (focus (exact rfl)); (focus (walk_at "set")))
  | (with_reducible refine MvW.v ?_) | ((with_reducible apply MvW.loc); (focus (exact rfl)); (focus (walk_at "set")))
  | (with_reducible refine AW.nil ?_) | (with_reducible refine AW.cons ?_) | (with_reducible refine FzsW.nil ?_) | (with_reducible refine FzsW.F ?_) | (with_reducible refine FzsW.O ?_) | ((with_reducible refine FzsW.Bx ?_ ?_); (focus (exact flat_int))) | ((with_reducible refine FzsW.Bx ?_ ?_); (focus (exact flat_str)))
  | ((with_reducible apply IIW.go); (focus (walk_at "is")); (focus (walk_at "is"))) | ((with_reducible apply AddW.ii); (focus (walk_at "is")); (focus (walk_at "is"))) | ((with_reducible apply MulW.ii); (focus (walk_at "is")); (focus (walk_at "is")); (focus omega))
  | ((with_reducible apply FldW.ob); (focus (exact rfl)); (focus (exact rfl))) | ((with_reducible apply FldW.insB); (focus (exact rfl))) | ((with_reducible apply FldW.insF); (focus (exact rfl)))
  | ((with_reducible apply IdxW.lB); (focus (walk_at "is")); (focus (walk_at "is")); (focus (exact rfl))) | ((with_reducible apply IdxW.lF); (focus (walk_at "is")); (focus (walk_at "is")); (focus (exact rfl))) | ((with_reducible apply IdxW.lO); (focus (walk_at "is")); (focus (walk_at "is")); (focus (exact rfl))) | ((with_reducible apply IdxW.tB); (focus (walk_at "is")); (focus (walk_at "is")); (focus (exact rfl))) | ((with_reducible apply IdxW.tF); (focus (walk_at "is")); (focus (walk_at "is")); (focus (exact rfl)))
  | ((with_reducible apply TW.sub); (focus (exact rfl))) | ((with_reducible apply I1W.go); (focus (walk_at "is"))) | ((with_reducible apply sub5); (focus (exact rfl)); (focus (first | exact ix0 rfl | exact ix1 rfl)); (focus (walk_at "set")); (focus (walk_at "set")))
  | ((with_reducible apply EW.lm); (focus (exact rfl))) | ((with_reducible apply lm5); (focus (exact rfl)); (focus (exact rfl)); (focus (walk_at "sz")); (focus (walk_at "set")))
  | ((with_reducible apply fst4); (focus (exact rfl)); (focus (walk_at "lt")); (focus (repeat (first | exact setAt_z | exact setAt_n | apply setAt_s))); (focus (walk_at "set")))
  | ((with_reducible apply SW.faug); (focus (exact rfl)); (focus (exact rfl))) | ((with_reducible apply SW.aug); (focus (exact rfl)))
  | ((with_reducible apply len_lst); (focus (walk_at "is"))) | ((with_reducible apply len_tup); (focus (walk_at "is"))) | ((with_reducible apply len_scr); (focus (walk_at "is"))) | (with_reducible refine EW.abs ?_) | (with_reducible refine EW.pow ?_)
  | (with_reducible refine GiW.nil ?_) | ((with_reducible apply GiW.cons); (focus (exact rfl)); (focus (walk_at "set"))) | (with_reducible refine UnW.xF ?_) | (with_reducible refine UnW.xO ?_) | ((with_reducible refine UnW.xB ?_ ?_); (focus (exact flat_int))) | ((with_reducible refine UnW.xB ?_ ?_); (focus (exact flat_str))) | ((with_reducible refine UnW.xOb ?_ ?_); (focus (repeat (first | exact unBs_nilE | refine unBs_F ?_ | refine unBs_O ?_))))
  | (with_reducible refine CaW.go ?_) | (with_reducible refine PuW.nil ?_) | (with_reducible refine PuW.b ?_) | (with_reducible refine PuW.f ?_) | ((with_reducible apply PuW.io); (focus (exact rfl)); (focus (walk_at "set"))) | ((with_reducible refine PuW.ioT ?_ ?_); (focus (exact rfl)))
  | (with_reducible refine PaW.nil ?_) | (with_reducible refine PaW.io ?_) | ((with_reducible apply PaW.b); (focus (walk_at "is"))) | (with_reducible refine PaW.fF ?_)
  | (with_reducible refine PtW.nil ?_) | (with_reducible refine PtW.b ?_) | (with_reducible refine PtW.f ?_) | ((with_reducible apply PtW.io); (focus (walk_at "lt")); (focus (walk_at "set"))) | ((with_reducible refine PtW.ioT ?_ ?_); (focus (exact rfl)))
  | (with_reducible refine IW.seq ?_) | (with_reducible refine IW.r1 ?_) | (with_reducible refine IW.r2 ?_) | (with_reducible refine ItsW.lstF ?_) | (with_reducible refine ItsW.lstB ?_) | (with_reducible refine ItsW.lstO ?_) | (with_reducible refine ItsW.tupF ?_) | (with_reducible refine ItsW.tupB ?_) | ((with_reducible refine R1W.go ?_ ?_); (focus omega))
  | ((with_reducible apply TW.n); (focus (exact rfl)); (focus (walk_at "lt")); (focus (walk_at "set"))) | (with_reducible refine TsW.nil ?_) | (with_reducible refine TsW.cons ?_) | (with_reducible refine TW.tupF ?_) | (with_reducible refine TW.tupB ?_) | (with_reducible refine TW.tp ?_)
  | (with_reducible refine BoW.tt ?_) | (with_reducible refine BoW.ff ?_) | (with_reducible refine NotW.d ?_) | (with_reducible refine NotW.b ?_) | (with_reducible refine FzD.F ?_) | (with_reducible refine FzD.O ?_) | ((with_reducible refine FzD.Bx ?_ ?_); (focus (exact flat_int)))
  | ((with_reducible apply and3); (focus (exact rfl)); (focus (walk_at "lt")); (focus (walk_at "set")))
  | ((with_reducible apply And.intro); (focus (first | walk_at "sz" | exact rfl))) ))
local macro_rules | `(tactic| walk_at "wp") => `(tactic| repeat (walk_at "w1"))
def d_feed : Sm := (sSeq (sSet 2 (eIf (eLt (eVar 1) (eLen (eVar 0))) (eIdx (eVar 0) (eVar 1)) (eAdd (eMul (eC (.int 83)) (eVar 1)) (eC (.int 29)))))
    (sSeq (sSet 3 (eMax2 (eC (.int 0)) (eSub (eAbs (eVar 2)) (ePow (eC (.int 10)) (eC (.int 18))))))
    (sSeq (sSet 4 (eMod (eAdd (eAdd (eMul (eVar 2) (eC (.int 6364136223846793005))) (eMul (eC (.int 7919)) (eVar 1))) (eC (.int 1442695040888963407))) (eC (.int 2305843009213693951))))
    (sRet (eLst (gCons (eF (eVar 3)) (gCons (eF (eVar 4)) gNil)))))))
def den_feed : Fn := defn 5 [] d_feed
def d_take : Sm := (sSeq (sIf (eGt (eIdx (eVar 0) (eC (.int 0))) (eC (.int 0)))
    (sSeq (sSet 2 (eMod (eIdx (eVar 0) (eC (.int 0))) (eVar 1)))
    (sSeq (sAsg (tgSub 0 (eC (.int 0))) (eDiv (eIdx (eVar 0) (eC (.int 0))) (eVar 1)))
    (sRet (eM (eVar 2)))))
    sNil)
    (sSeq (sAsg (tgSub 0 (eC (.int 1))) (eMod (eAdd (eMul (eIdx (eVar 0) (eC (.int 1))) (eC (.int 6364136223846793005))) (eC (.int 1442695040888963407))) (eC (.int 2305843009213693951))))
    (sRet (eMod (eDiv (eIdx (eVar 0) (eC (.int 1))) (eC (.int 65536))) (eVar 1)))))
def den_take : Fn := defn 3 [0] d_take
def d_pick : Sm := (sRet (eIdx (eVar 1) (eCall den_take [.io, .b] (gCons (eVar 0) (gCons (eLen (eVar 1)) gNil)))))
def den_pick : Fn := defn 2 [0] d_pick
abbrev feedT (d s : Int) : Tm := .v .O (.lst [.int d, .int s])
theorem FW.take {d s m : Int} {P : Tm → List Tm → Prop} {X : Er → List Tm → Prop} (h : 0 < m) (h2 : m < 1073741824) (k : ∀ x d' s', 0 ≤ x → x < m → P (.v .F (.int x)) [feedT d' s']) : FW den_take [feedT d s, .v .B (.int m)] P X := by
  refine FW.def (ρ0 := [some (feedT d s), some (.v .B (.int m)), none]) rfl ?_
  unfold d_take
  walk_at "wp"
  refine BoW.d (fun h0 => ?_) fun h0 => ?_
  all_goals walk_at "wp"
  all_goals exact k _ _ _ (Int.emod_nonneg _ (by omega)) (Int.emod_lt_of_pos _ h)
end PV

namespace PV
open PySem L2
section
variable {ρ : Ss} {P P' : Tm → Ss → Prop} {X X' : PX} {g ga gb gc g0 test elt : Ev} {gs gk : Ss → OuL} {N N' : Ss → Prop} {R R' : Tm → Ss → Prop} {B C B' C' : Ss → Prop} {t u : Tm} {PL PL' : List Tm → Ss → Prop} {it : Iv} {v : Nat}
/-- a comprehension with one name that leaves the names as they are -/
def CpW (v : Nat) (test elt : Ev) (ts : List Tm) (ρ : Ss) (K : List D → Prop) : Prop := hideOk ρ v = true ∧ ∃ ds, compL (tgN v) test elt [v] ts ρ = some (ds, ρ.set v none) ∧ ds.length ≤ sizeLine ∧ K ds
theorem hide_at (h : hideOk ρ v = true) : ∃ o, ρ[v]? = some o := by
  unfold hideOk at h
  cases e : ρ[v]? with
  | none => rw [e] at h; cases h
  | some o => exact ⟨o, rfl⟩
theorem rest1 {o : Option Tm} (h : ρ[v]? = some o) : restS ρ (ρ.set v none) [v] = ρ := by
  simp only [restS, h, setset]
  have hl := (List.getElem?_eq_some_iff.mp h)
  obtain ⟨hl, e⟩ := hl
  rw [← e]
  exact List.set_getElem_self hl
theorem EW.comp1 (h : IW it ρ (fun ts ρ1 => CpW v test elt ts ρ1 fun ds => P (.v .O (.lst ds)) ρ1) X) : EW (eComp it [v] (tgN v) test elt) ρ P X := by
  with_unfolding_all
    refine EW.comp ?_
    unfold IW at h ⊢
    cases e : it ρ with
    | ok ts ρ1 =>
      rw [e] at h
      obtain ⟨h1, ds, h2, h3, h4⟩ := h
      obtain ⟨o, ho⟩ := hide_at h1
      exact ⟨by simpa using h1, ds, _, h2, h3, _, rest1 ho, h4⟩
    | ex e' ρ1 => rw [e] at h; exact h
    | no => rw [e] at h; exact h
theorem CpW.map {α : Type} {K : List D → Prop} {inj : α → Tm} (p : α → Bool) (f : α → D) (xs : List α) (hl : ∀ a, isLoc (inj a) = false) (hv : hideOk ρ v = true)
    (ht : ∀ a ∈ xs, ∃ ρ2, ρ.set v (some (inj a)) = ρ2 ∧ EW test ρ2 (fun t ρ1 => t = .v .F (.bl (p a)) ∧ ρ1 = ρ2) X0)
    (he : ∀ a ∈ xs, p a = true → ∃ ρ2, ρ.set v (some (inj a)) = ρ2 ∧ EW elt ρ2 (fun t ρ1 => FzD t fun d => d = f a ∧ ρ1 = ρ2) X0) (hz : ((xs.filter p).map f).length ≤ sizeLine) (h : K ((xs.filter p).map f)) : CpW v test elt (xs.map inj) ρ K := by
  with_unfolding_all
    have hvl : v < ρ.length := by obtain ⟨o, ho⟩ := hide_at hv; exact (List.getElem?_eq_some_iff.mp ho).1
    refine ⟨hv, _, ?_, hz, h⟩
    clear hz h
    have main : ∀ (ys : List α) (σ : Ss), (∀ a ∈ ys, a ∈ xs) → (∀ x, σ.set v x = ρ.set v x) → v < σ.length → compL (tgN v) test elt [v] (ys.map inj) σ = some ((ys.filter p).map f, ρ.set v none) := by
      intro ys
      induction ys with
      | nil => intro σ _ hs _; simp [compL, wipeS, hs]
      | cons a ys ih =>
        intro σ hm hs hlv
        have ha := hm a List.mem_cons_self
        have hm' : ∀ b ∈ ys, b ∈ xs := fun b hb => hm b (List.mem_cons_of_mem _ hb)
        obtain ⟨_, rfl, h1⟩ := ht a ha
        obtain ⟨_, _, e1, rfl, rfl⟩ := EW.get h1
        have ih' := ih (ρ.set v (some (inj a))) hm' (fun x => by simp) (by simpa using hvl)
        have c1 : tgN v (inj a) (wipeS σ [v]) = some (ρ.set v (some (inj a))) := by
          simp only [wipeS, tgN_eq, hl a, List.length_set, hlv, hvl, and_self, if_true, setset, hs]
        cases hp : p a with
        | true =>
          obtain ⟨_, rfl, h2⟩ := he a ha hp
          obtain ⟨x, _, e2, d, hd, rfl, rfl⟩ := EW.get h2
          rw [hp] at e1
          simp only [List.map_cons, compL, c1, e1, asB_v, e2, hd, ih', List.filter_cons, hp, if_true]
        | false =>
          rw [hp] at e1
          simp only [List.map_cons, compL, c1, e1, asB_v, ih', List.filter_cons, hp, Bool.false_eq_true, if_false]
    exact main xs ρ (fun _ h => h) (fun _ => rfl) hvl
theorem CpW.ints {K : List D → Prop} {k : Kd} (p : Int → Bool) (f : Int → D) (xs : List Int) (hv : hideOk ρ v = true)
    (ht : ∀ a ∈ xs, ∃ ρ2, ρ.set v (some (.v k (.int a))) = ρ2 ∧ EW test ρ2 (fun t ρ1 => t = .v .F (.bl (p a)) ∧ ρ1 = ρ2) X0)
    (he : ∀ a ∈ xs, p a = true → ∃ ρ2, ρ.set v (some (.v k (.int a))) = ρ2 ∧ EW elt ρ2 (fun t ρ1 => FzD t fun d => d = f a ∧ ρ1 = ρ2) X0) (hz : ((xs.filter p).map f).length ≤ sizeLine) (h : K ((xs.filter p).map f)) : CpW v test elt ((xs.map D.int).map (Tm.v k)) ρ K := by
  with_unfolding_all
    rw [List.map_map]
    exact CpW.map (inj := (Tm.v k) ∘ D.int) p f xs (fun _ => rfl) hv ht he hz h
/-- items of one list, by their data -/
theorem ForW.data {α : Type} {k : Kd} {f : α → D} {tg : Tg} {body : Sm} (I : List α → Ss → Prop) (xs : List α) {ρ : Ss} (h0 : I [] ρ)
    (hs : ∀ p x q ρ, xs = p ++ x :: q → I p ρ → TW tg (.v k (f x)) ρ fun ρ1 => SW body ρ1 (fun ρ2 => I (p ++ [x]) ρ2) R N (fun ρ2 => I (p ++ [x]) ρ2) X) (he : ∀ ρ, I xs ρ → N ρ) : ForW tg body ((xs.map f).map (Tm.v k)) ρ N R X := by
  with_unfolding_all
    rw [List.map_map]
    exact ForW.inv I xs [] h0 (fun a p x q ρ ha hp hI => hs p x q ρ (by rw [← hp, ha]; rfl) hI) (fun ρ h => he ρ h)
theorem TW.tup2F {tgs : Tgs} {x y : D} (h : TsW tgs [.v .F x, .v .F y] ρ N) : TW (tgTup tgs) (.v .F (.tup [x, y])) ρ N := h
theorem TW.tup3F {tgs : Tgs} {x y z : D} (h : TsW tgs [.v .F x, .v .F y, .v .F z] ρ N) : TW (tgTup tgs) (.v .F (.tup [x, y, z])) ρ N := h
theorem st1 {i : Nat} {is : List Nat} {ts : List Tm} {ρ1 ρ2 : Ss} (hl : isLoc t = false) (hi : i < ρ.length) (hs : ρ.set i (some t) = ρ1) (h : stAll is ts ρ1 = some ρ2) : stAll (i :: is) (t :: ts) ρ = some ρ2 := by
  subst hs
  simp only [stAll, hl, hi, and_self, if_true, h]
theorem st0 : stAll [] [] ρ = some ρ := rfl
theorem par1 {is : List Nat} {ts : List Tm} {ρ2 : Ss} (h : stAll is ts ρ = some ρ2) (n : N ρ2) : ∃ ρ2, stAll is ts ρ = some ρ2 ∧ N ρ2 := ⟨_, h, n⟩
theorem AddW.ll {k l : Kd} {xs ys : List D} (h1 : Is ρ t k (.lst xs)) (h2 : Is ρ u l (.lst ys)) (e1 : elk k xs = some xs) (e2 : elk l ys = some ys) (hz : xs.length + ys.length ≤ sizeLine) (p : P (.v .O (.lst (xs ++ ys))) ρ) : AddW t u ρ P := by
  refine ⟨_, _, _, h1, h2, ?_, p⟩
  simp only [opAdd, addV, e1, e2]
  first | rw [if_pos hz] | rfl
theorem elkF {xs : List D} : elk .F xs = some xs := rfl
theorem elkO {xs : List D} : elk .O xs = some xs := rfl
theorem elkBi {xs : List Int} : elk .B (xs.map D.int) = some (xs.map D.int) := by
  unfold elk
  rw [if_pos]
  rw [List.all_eq_true]
  intro d hd
  obtain ⟨i, _, rfl⟩ := List.mem_map.mp hd
  exact flat_int
theorem EW.list (h : EW g ρ (fun t ρ1 => ∃ k xs, (Is ρ1 t k (.lst xs) ∨ Is ρ1 t k (.tup xs)) ∧ elk k xs = some xs ∧ P (.v .O (.lst xs)) ρ1) X) : EW (eList g) ρ P X := by with_unfolding_all exact (EW.op1 (EW.imp h fun t ρ1 h => by
  obtain ⟨k, xs, h1 | h1, h2, h3⟩ := h
  · exact ⟨_, _, h1, by simp only [opList, h2, Option.map_some], h3⟩
  · exact ⟨_, _, h1, by simp only [opList, h2, Option.map_some], h3⟩))
theorem EW.tuple (h : EW g ρ (fun t ρ1 => ∃ k xs, (Is ρ1 t k (.lst xs) ∨ Is ρ1 t k (.tup xs)) ∧ elk k xs = some xs ∧ P (.v .F (.tup xs)) ρ1) X) : EW (eTuple g) ρ P X := by with_unfolding_all exact (EW.op1 (EW.imp h fun t ρ1 h => by
  obtain ⟨k, xs, h1 | h1, h2, h3⟩ := h
  · exact ⟨_, _, h1, by simp only [opTuple, h2, Option.map_some], h3⟩
  · exact ⟨_, _, h1, by simp only [opTuple, h2, Option.map_some], h3⟩))
theorem EW.sum (h : EW g ρ (fun t ρ1 => ∃ k ns, Is ρ1 t k (lI ns) ∧ P (.v .F (.int ns.sum)) ρ1) X) : EW (eSum g) ρ P X := by with_unfolding_all exact (EW.op1 (EW.imp h fun t ρ1 h => by
  obtain ⟨k, ns, h1, h3⟩ := h
  exact rd1_is h1 (by simp only [dL1, intsD_lI, Option.bind_some, Option.map_some]) h3))
theorem EW.eq (h : EW ga ρ (fun t ρ1 => EW gb ρ1 (fun u ρ2 => ∃ k l x y r, Is ρ2 t k x ∧ Is ρ2 u l y ∧ eqD false x y = some r ∧ P (.v .F r) ρ2) X) X) : EW (eEq ga gb) ρ P X := by with_unfolding_all exact (EW.op2 (E2W.imp h fun t u ρ h => by
  obtain ⟨k, l, x, y, r, h1, h2, h3, h4⟩ := h
  exact rd2_is h1 h2 h3 h4))
theorem EW.ne (h : EW ga ρ (fun t ρ1 => EW gb ρ1 (fun u ρ2 => ∃ k l x y r, Is ρ2 t k x ∧ Is ρ2 u l y ∧ eqD true x y = some r ∧ P (.v .F r) ρ2) X) X) : EW (eNe ga gb) ρ P X := by with_unfolding_all exact (EW.op2 (E2W.imp h fun t u ρ h => by
  obtain ⟨k, l, x, y, r, h1, h2, h3, h4⟩ := h
  exact rd2_is h1 h2 h3 h4))
theorem eqD_int (i j : Int) : eqD false (.int i) (.int j) = some (.bl (decide (i = j))) := by
  simp [eqD, strD, eqP, toPy, SeqAt.shaped, PyData.canLay0, PyData.depth, PyData.eqv]
  first | done | rfl
theorem neD_int (i j : Int) : eqD true (.int i) (.int j) = some (.bl (decide (i ≠ j))) := by
  simp [eqD, strD, eqP, toPy, SeqAt.shaped, PyData.canLay0, PyData.depth, PyData.eqv]
  first | done | rfl
/-- a comprehension by what holds after each item -/
theorem CoW.inv {α : Type} {tg : Tg} {vs : List Nat} {inj : α → Tm} (I : List α → List D → Ss → Prop) : ∀ (xs pre : List α) (es : List D) (ρ : Ss), I pre es (wipeS ρ vs) →
    (∀ a p x q ds ρ, a = pre ++ xs → a = p ++ x :: q → I p ds ρ → TW tg (inj x) ρ fun ρ1 => EW test ρ1 (fun b ρ2 => BoW b (EW elt ρ2 (fun y ρ3 => FzD y fun d => ∃ ρ4, wipeS ρ3 vs = ρ4 ∧ I (p ++ [x]) (ds ++ [d]) ρ4) X0) (∃ ρ4, wipeS ρ2 vs = ρ4 ∧ I (p ++ [x]) ds ρ4)) X0) →
    ∃ ds ρ', compL tg test elt vs (xs.map inj) ρ = some (ds, ρ') ∧ I (pre ++ xs) (es ++ ds) ρ'
  | [], pre, es, ρ, h0, hs => by with_unfolding_all exact (⟨[], wipeS ρ vs, by simp only [List.map_nil, compL], by rw [List.append_nil, List.append_nil]; exact h0⟩)
  | x :: xs, pre, es, ρ, h0, hs => by
    with_unfolding_all
      obtain ⟨ρ1, e1, h1⟩ := hs _ pre x xs es _ rfl rfl h0
      obtain ⟨b, ρ2, e2, h2⟩ := EW.get h1
      obtain ⟨bb, eb, h2⟩ := h2.of
      have hs' : ∀ a p y q ds ρ, a = (pre ++ [x]) ++ xs → a = p ++ y :: q → I p ds ρ → TW tg (inj y) ρ fun ρ1 => EW test ρ1 (fun b ρ2 => BoW b (EW elt ρ2 (fun y' ρ3 => FzD y' fun d => ∃ ρ4, wipeS ρ3 vs = ρ4 ∧ I (p ++ [y]) (ds ++ [d]) ρ4) X0) (∃ ρ4, wipeS ρ2 vs = ρ4 ∧ I (p ++ [y]) ds ρ4)) X0 := fun a p y q ds ρ ha => hs a p y q ds ρ (by rw [ha, List.append_assoc]; rfl)
      cases bb with
      | true =>
        obtain ⟨y, ρ3, e3, d, e4, _, rfl, h3⟩ := EW.get (show EW elt ρ2 _ X0 from h2)
        obtain ⟨ds, ρ', e5, h4⟩ := CoW.inv I xs (pre ++ [x]) (es ++ [d]) ρ3 h3 hs'
        refine ⟨d :: ds, ρ', by simp only [List.map_cons, compL, e1, e2, eb, e3, e4, e5], ?_⟩
        rw [List.append_assoc, List.append_assoc] at h4
        exact h4
      | false =>
        obtain ⟨_, rfl, h3⟩ := h2
        obtain ⟨ds, ρ', e5, h4⟩ := CoW.inv I xs (pre ++ [x]) es ρ2 h3 hs'
        refine ⟨ds, ρ', by simp only [List.map_cons, compL, e1, e2, eb, e5], ?_⟩
        rw [List.append_assoc] at h4
        exact h4
theorem CoW.go {α : Type} {tg : Tg} {vs : List Nat} {inj : α → Tm} {K : List D → Ss → Prop} (I : List α → List D → Ss → Prop) (xs : List α) (h0 : ∃ ρ1, wipeS ρ vs = ρ1 ∧ I [] [] ρ1)
    (hs : ∀ p x q ds ρ, xs = p ++ x :: q → I p ds ρ → TW tg (inj x) ρ fun ρ1 => EW test ρ1 (fun b ρ2 => BoW b (EW elt ρ2 (fun y ρ3 => FzD y fun d => ∃ ρ4, wipeS ρ3 vs = ρ4 ∧ I (p ++ [x]) (ds ++ [d]) ρ4) X0) (∃ ρ4, wipeS ρ2 vs = ρ4 ∧ I (p ++ [x]) ds ρ4)) X0)
    (he : ∀ ds ρ, I xs ds ρ → K ds ρ) : CoW tg test elt vs (xs.map inj) ρ K := by
  with_unfolding_all
    obtain ⟨_, rfl, h0⟩ := h0
    obtain ⟨ds, ρ', e, h⟩ := CoW.inv I xs [] [] ρ h0 fun a p x q ds ρ ha hp => hs p x q ds ρ (by rw [← hp, ha]; rfl)
    exact ⟨ds, ρ', e, he ds ρ' h⟩
theorem wip1 {ρ1 : Ss} (h : ρ.set v none = ρ1) : wipeS ρ [v] = ρ1 := h
theorem CoW.data {α : Type} {tg : Tg} {vs : List Nat} {k : Kd} {f : α → D} {K : List D → Ss → Prop} (I : List α → List D → Ss → Prop) (xs : List α) (h0 : ∃ ρ1, wipeS ρ vs = ρ1 ∧ I [] [] ρ1)
    (hs : ∀ p x q ds ρ, xs = p ++ x :: q → I p ds ρ → TW tg (.v k (f x)) ρ fun ρ1 => EW test ρ1 (fun b ρ2 => BoW b (EW elt ρ2 (fun y ρ3 => FzD y fun d => ∃ ρ4, wipeS ρ3 vs = ρ4 ∧ I (p ++ [x]) (ds ++ [d]) ρ4) X0) (∃ ρ4, wipeS ρ2 vs = ρ4 ∧ I (p ++ [x]) ds ρ4)) X0)
    (he : ∀ ds ρ, I xs ds ρ → K ds ρ) : CoW tg test elt vs ((xs.map f).map (Tm.v k)) ρ K := by
  with_unfolding_all
    rw [List.map_map]
    exact CoW.go I xs h0 hs he
/-- may be hidden by a comprehension -/
def Hid (o : Option Tm) : Prop := o = none ∨ ∃ d, o = some (.v .F d)
theorem Hid.ok {o : Option Tm} (h : Hid o) (e : ρ[v]? = some o) : hideOk ρ v = true := by
  unfold hideOk
  rw [e]
  rcases h with rfl | ⟨d, rfl⟩ <;> rfl
theorem Hid.all {o : Option Tm} (h : Hid o) (e : ρ[v]? = some o) : [v].all (hideOk ρ) = true := by simpa using h.ok e
/-- slices -/
def AsW (t : Tm) (ρ : Ss) (K : Option Int → Ss → Prop) : Prop := ∃ i, asI t = some i ∧ K (some i) ρ
@[irreducible] def OW (g : Option Ev) (ρ : Ss) (K : Option Int → Ss → Prop) (X : PX) : Prop := match g with
  | none => K none ρ
  | some g => EW g ρ (fun t ρ1 => ∃ i, asI t = some i ∧ K (some i) ρ1) X
theorem OW.go {go : Option Ev} {k : Option Int → Ss → Ou} (h : OW go ρ (fun i ρ1 => OuW (k i ρ1) P X) X) : OuW (evO go ρ k) P X := by
  with_unfolding_all
    cases go with
    | none => exact h
    | some g =>
      unfold evO
      refine OuW.bind (OuW.imp (show EW g ρ _ X from h) (fun t ρ1 h => ?_) fun _ _ h => h)
      obtain ⟨i, e, h⟩ := h
      rw [e]
      exact h
def SlW (t : Tm) (l h : Option Int) (ρ : Ss) (P : Tm → Ss → Prop) : Prop := ∃ x r, derT ρ t = some x ∧ opSl x l h = some r ∧ P r ρ
theorem OW.imp {go : Option Ev} {K K' : Option Int → Ss → Prop} (h : OW go ρ K X) (i : ∀ j ρ, K j ρ → K' j ρ) : OW go ρ K' X := by
  with_unfolding_all
    cases go with
    | none => exact i _ _ h
    | some g => exact EW.imp h fun t ρ1 h => by obtain ⟨j, e, h⟩ := h; exact ⟨j, e, i _ _ h⟩
theorem EW.sl {gl gh : Option Ev} (h : EW g ρ (fun t ρ1 => OW gl ρ1 (fun l ρ2 => OW gh ρ2 (fun h ρ3 => SlW t l h ρ3 P) X) X) X) : EW (eSl g gl gh) ρ P X := by
  with_unfolding_all
    unfold EW eSl
    refine OuW.bind (OuW.imp h (fun t ρ1 h => OW.go (OW.imp h fun l ρ2 h => OW.go (OW.imp h fun hh ρ3 h => ?_))) fun _ _ h => h)
    obtain ⟨x, r, h1, h2, h3⟩ := h
    simp only [h1, h2]
    exact h3
theorem OW.none {K : Option Int → Ss → Prop} (h : K none ρ) : OW none ρ K X := by with_unfolding_all exact (h)
theorem OW.someI {K : Option Int → Ss → Prop} (h : EW g ρ (fun t ρ1 => AsW t ρ1 K) X) : OW (some g) ρ K X := by with_unfolding_all exact (h)
theorem asI4 {k : Kd} {i : Int} {K : Option Int → Ss → Prop} (h : K (some i) ρ) : AsW (.v k (.int i)) ρ K := ⟨i, rfl, h⟩
theorem cut_from {α : Type} (xs : List α) (k : Nat) : cutD xs (some (k : Int)) none = xs.drop k := by
  unfold cutD
  rw [HT.sIx_nat, HT.sIx_none, List.take_of_length_le (by rw [List.length_drop]; exact Nat.le_refl _)]
  rcases Nat.le_total k xs.length with h | h
  · rw [Nat.min_eq_left h]
  · rw [Nat.min_eq_right h, List.drop_of_length_le h, List.drop_of_length_le (Nat.le_refl _)]
theorem SlW.lst {k : Kd} {xs ys : List D} {l h : Option Int} (h1 : Is ρ t k (.lst xs)) (e : elk k xs = some xs) (hc : cutD xs l h = ys) (p : P (.v .O (.lst ys)) ρ) : SlW t l h ρ P := ⟨_, _, h1, by simp only [opSl, slV, e, Option.map_some, hc], p⟩
theorem EW.rev (h : EW g ρ (fun t ρ1 => ∃ k xs, Is ρ1 t k (.lst xs) ∧ elk k xs = some xs ∧ P (.v .O (.lst xs.reverse)) ρ1) X) : EW (eRev g) ρ P X := by with_unfolding_all exact (EW.op1 (EW.imp h fun t ρ1 h => by
  obtain ⟨k, xs, h1, h2, h3⟩ := h
  exact ⟨_, _, h1, by simp only [opRev, h2, Option.map_some], h3⟩))
theorem O1W.of {f : Tm → Option Tm} {x r : Tm} (h1 : derT ρ t = some x) (h2 : f x = some r) (p : P r ρ) : O1W f t ρ P := ⟨x, r, h1, h2, p⟩
theorem EW.isN (h : EW ga ρ (fun t ρ1 => EW gb ρ1 (fun u ρ2 => ∃ k l x, Is ρ2 t k x ∧ Is ρ2 u l .non ∧ P (.v .F (.bl (isNon x))) ρ2) X) X) : EW (eIsN ga gb) ρ P X := by with_unfolding_all exact (EW.op2 (E2W.imp h fun t u ρ h => by
  obtain ⟨k, l, x, h1, h2, h3⟩ := h
  exact rd2_is h1 h2 rfl h3))
end
end PV

namespace PV
open PySem L2
section
variable {ρ : Ss} {P P' : Tm → Ss → Prop} {X X' : PX} {g ga gb gc g0 test elt gn : Ev} {gs gk : Ss → OuL} {N N' : Ss → Prop} {R R' : Tm → Ss → Prop} {B C B' C' : Ss → Prop} {t u : Tm} {PL PL' : List Tm → Ss → Prop} {it : Iv} {v : Nat}
theorem EW.sumA (h : EW g ρ (fun t ρ1 => ∃ k ns d, Is ρ1 t k d ∧ (d = lI ns ∨ d = .tup (ns.map .int)) ∧ P (.v .F (.int ns.sum)) ρ1) X) : EW (eSumA g) ρ P X := EW.op1 (EW.imp h fun t ρ1 h => by
  obtain ⟨k, ns, d, h1, rfl | rfl, h3⟩ := h
  · exact rd1_is h1 (by simp only [sumD, intsD_lI, Option.map_some]) h3
  · exact rd1_is h1 (by simp only [sumD, intsD_lI, Option.map_some]) h3)
/-- repr -/
def RpW (t : Tm) (ρ : Ss) (P : Tm → Ss → Prop) : Prop := O1W (rd1 reprD) t ρ P
theorem EW.repr (h : EW g ρ (fun t ρ1 => RpW t ρ1 P) X) : EW (eRepr g) ρ P X := EW.op1 h
theorem RpW.go {k : Kd} {d : D} {x : Str} (h1 : Is ρ t k d) (h2 : reprD d = some (.str x)) (p : P (.v .F (.str x)) ρ) : RpW t ρ P := rd1_is h1 h2 p
theorem neD_str (a b : Str) : eqD true (.str a) (.str b) = some (.bl (decide (a ≠ b))) := by
  simp only [eqD, strD, if_true, decide_not]
theorem shp_lints (ns : List Int) : SeqAt.shaped (.list (ns.map .int)) = true := by
  simp [SeqAt.shaped, PyData.canLay0, PyData.depth]
theorem neD_lints (ns ms : List Int) : eqD true (lI ns) (lI ms) = some (.bl (decide (ns ≠ ms))) := by
  simp only [eqD, strD, eqP, toPy, toPys_ints, Option.map_some, shp_lints, and_self, if_true, PyData.eqv, eqv_ints, decide_not]
theorem eqD_lints (ns ms : List Int) : eqD false (lI ns) (lI ms) = some (.bl (decide (ns = ms))) := by
  simp only [eqD, strD, eqP, toPy, toPys_ints, Option.map_some, shp_lints, and_self, if_true, PyData.eqv, eqv_ints, Bool.false_eq_true, if_false]
/-- xs += e -/
def ExtW (i : Nat) (t : Tm) (ρ : Ss) (N : Ss → Prop) : Prop := ∃ xs ys, ρ[i]? = some (some (.v .O (.lst xs))) ∧ ((t = .v .F (.tup ys) ∨ t = .v .F (.lst ys) ∨ t = .v .O (.lst ys)) ∨ ((t = .v .B (.tup ys) ∨ t = .v .B (.lst ys)) ∧ elk .B ys = some ys)) ∧ (xs ++ ys).length ≤ sizeLine ∧ ∃ ρ2, ρ.set i (some (.v .O (.lst (xs ++ ys)))) = ρ2 ∧ N ρ2
theorem SW.ext {i : Nat} {zs : List D} (h0 : ρ[i]? = some (some (.v .O (.lst zs)))) (h : EW g ρ (fun t ρ1 => ExtW i t ρ1 N) X) : SW (sExt i g) ρ N R B C X := by
  with_unfolding_all
    unfold SW sExt
    simp only [h0]
    refine OuW.toF (OuW.imp h (fun t ρ1 h => ?_) fun _ _ h => h)
    obtain ⟨xs, ys, h1, h2, h3, _, rfl, h⟩ := h
    rcases h2 with (rfl | rfl | rfl) | ⟨rfl | rfl, e⟩
    · simp only [h1, opExt, elk, Option.map_some]; rw [if_pos h3]; exact h
    · simp only [h1, opExt, elk, Option.map_some]; rw [if_pos h3]; exact h
    · simp only [h1, opExt, elk, Option.map_some]; rw [if_pos h3]; exact h
    · simp only [h1, opExt, e, Option.map_some]; rw [if_pos h3]; exact h
    · simp only [h1, opExt, e, Option.map_some]; rw [if_pos h3]; exact h
theorem ExtW.F {i : Nat} {xs ys : List D} {ρ2 : Ss} (h1 : ρ[i]? = some (some (.v .O (.lst xs)))) (hz : (xs ++ ys).length ≤ sizeLine) (hs : ρ.set i (some (.v .O (.lst (xs ++ ys)))) = ρ2) (h : N ρ2) : ExtW i (.v .F (.tup ys)) ρ N := ⟨xs, ys, h1, .inl (.inl rfl), hz, _, hs, h⟩
/-- xs[e] += n -/
theorem SW.augSub {i : Nat} {gi : Ev} {f : Int → Int → Int} (hl : isLs ρ i = true) (h : EW gi ρ (fun u ρ1 => ∃ k kk xs m, u = .v kk (.int k) ∧ ρ1[i]? = some (some (.v .O (.lst xs))) ∧ atI xs k = some (.int m) ∧ EW g ρ1 (fun w ρ2 => ∃ n kn ys j, w = .v kn (.int n) ∧ ρ2[i]? = some (some (.v .O (.lst ys))) ∧ ixN ys.length k = some j ∧ ∃ ρ3, ρ2.set i (some (.v .O (.lst (ys.set j (.int (f m n)))))) = ρ3 ∧ N ρ3) X) X) : SW (sAugSub i gi f g) ρ N R B C X := by
  with_unfolding_all
    unfold SW sAugSub
    rw [if_pos hl]
    refine OuW.toF (OuW.imp h (fun u ρ1 h => ?_) fun _ _ h => h)
    obtain ⟨k, kk, xs, m, rfl, h1, h2, h⟩ := h
    simp only [asI_v, h1, h2]
    refine OuW.toF (OuW.imp h (fun w ρ2 h => ?_) fun _ _ h => h)
    obtain ⟨n, kn, ys, j, rfl, h3, h4, _, rfl, h⟩ := h
    simp only [asI_v, h3, h4]
    exact h
theorem IW.zip (h : EW ga ρ (fun t ρ1 => EW gb ρ1 (fun u ρ2 => ∃ ts, itemsZip t u = some ts ∧ PL ts ρ2) X) X) : IW (itZip ga gb) ρ PL X := by
  with_unfolding_all
    unfold IW itZip
    refine OuW.bindL (OuW.imp h (fun t ρ1 h => OuW.bindL (OuW.imp h (fun u ρ2 h => ?_) fun _ _ h => h)) fun _ _ h => h)
    obtain ⟨ts, e, h⟩ := h
    rw [e]
    exact h
theorem EW.neg (h : EW g ρ (fun t ρ1 => I1W t ρ1 fun i => P (.v .F (.int (-i))) ρ1) X) : EW (eNeg g) ρ P X := EW.op1 (EW.imp h fun t ρ1 h => by
  obtain ⟨i, k, h1, h2⟩ := h
  exact rd1_is h1 rfl h2)
/-- for x in A for u in range(n) -/
def CrW (tgt : Tg) (gn : Ev) (tgt1 : Tg) (elt : Ev) (vs vs1 : List Nat) (ts : List Tm) (ρ : Ss) (K : List D → Ss → Prop) : Prop := ∃ ds ρ', compR tgt gn tgt1 elt vs vs1 ts ρ = some (ds, ρ') ∧ K ds ρ'
theorem CrW.nil {tgt tgt1 : Tg} {vs vs1 : List Nat} {K : List D → Ss → Prop} {ρ1 : Ss} (hw : wipeS ρ vs = ρ1) (h : K [] ρ1) : CrW tgt gn tgt1 elt vs vs1 [] ρ K := ⟨[], ρ1, by simp only [PV.compR, hw], h⟩
theorem CrW.cons {tgt tgt1 : Tg} {vs vs1 : List Nat} {K : List D → Ss → Prop} {ρ1 : Ss} {ts : List Tm} (hw : wipeS ρ vs = ρ1)
    (h : TW tgt t ρ1 fun ρ2 => EW gn ρ2 (fun n ρ3 => R1W n fun j => CoW tgt1 eTrue elt vs1 (rngL 0 j.toNat) ρ3 fun ds1 ρ4 => CrW tgt gn tgt1 elt vs vs1 ts ρ4 fun ds ρ5 => K (ds1 ++ ds) ρ5) X0) : CrW tgt gn tgt1 elt vs vs1 (t :: ts) ρ K := by
  obtain ⟨ρ2, e2, h⟩ := h
  obtain ⟨n, ρ3, e3, j, e4, hb, ds1, ρ4, e5, ds, ρ5, e6, h⟩ := EW.get h
  subst hw
  refine ⟨_, _, ?_, h⟩
  simp only [PV.compR, e2, e3, e4]
  rw [if_pos hb, e5]
  simp only [e6]
theorem filt_true {α : Type} (xs : List α) : (xs.filter fun _ => true) = xs := by simp
abbrev rgI (n : Nat) : List Int := (List.range n).map fun i : Nat => (i : Int)
theorem FzW.ob {c : Nat} {ts : List Tm} (h : FzsW ts fun ds => P (.v .F (.ins c ds)) ρ) : FzW (.ob c ts) ρ P := by
  with_unfolding_all
    obtain ⟨ds, e, h⟩ := h
    have e2 : frz (.ob c ts) = some (.ins c ds) := by rw [PV.frz, e]; rfl
    unfold FzW eF1
    simp only [e2]
    exact h
theorem cut_to {α : Type} (xs : List α) (k : Nat) : cutD xs none (some (k : Int)) = xs.take k := by
  unfold cutD
  rw [HT.sIx_nat, HT.sIx_none, List.drop_zero, Nat.sub_zero]
  rcases Nat.le_total k xs.length with h | h
  · rw [Nat.min_eq_left h]
  · rw [Nat.min_eq_right h, List.take_of_length_le h, List.take_of_length_le (Nat.le_refl _)]
theorem cut_mid {α : Type} (xs : List α) (a b : Nat) : cutD xs (some (a : Int)) (some (b : Int)) = (xs.drop a).take (b - a) := by
  unfold cutD
  rw [HT.sIx_nat, HT.sIx_nat]
  rcases Nat.le_total a xs.length with h | h
  · rw [Nat.min_eq_left h]
    rcases Nat.le_total b xs.length with h2 | h2
    · rw [Nat.min_eq_left h2]
    · rw [Nat.min_eq_right h2, List.take_of_length_le (by rw [List.length_drop]; exact Nat.le_refl _), List.take_of_length_le (by rw [List.length_drop]; omega)]
  · rw [Nat.min_eq_right h, List.drop_of_length_le h, List.drop_of_length_le (Nat.le_refl _), List.take_nil, List.take_nil]
theorem cut_mid1 {α : Type} (xs : List α) (a e : Nat) : cutD xs (some (a : Int)) (some ((e : Int) + 1)) = (xs.drop a).take (e + 1 - a) := by
  rw [show ((e : Int) + 1) = ((e + 1 : Nat) : Int) by omega]
  exact cut_mid _ _ _
end
end PV

namespace PV
open PySem L2
section
variable {ρ : Ss} {P P' : Tm → Ss → Prop} {X X' : PX} {g ga gb gc g0 test elt gn : Ev} {gs gk : Ss → OuL} {N N' : Ss → Prop} {R R' : Tm → Ss → Prop} {B C B' C' : Ss → Prop} {t u : Tm} {PL PL' : List Tm → Ss → Prop} {it : Iv} {v : Nat}
@[irreducible] def CaKW (f : Fn) (ms : List Md) (t0 : Tm) (ts us : List Tm) (dfl : List D) (ρ : Ss) (P : Tm → Ss → Prop) (X : PX) : Prop := CaW f ms (t0 :: (ts ++ us ++ dfl.map (Tm.v .F))) ρ P X
theorem EW.sorted (h : EW g ρ (fun t ρ1 => ∃ k ns d, Is ρ1 t k d ∧ (d = lI ns ∨ d = .tup (ns.map .int)) ∧ P (.v .O (lI (isort ns))) ρ1) X) : EW (eSorted g) ρ P X := EW.op1 (EW.imp h fun t ρ1 h => by
  obtain ⟨k, ns, d, h1, rfl | rfl, h3⟩ := h
  · exact ⟨_, _, h1, by simp only [opSort, toD_v, intsD_lI, Option.map_some], h3⟩
  · exact ⟨_, _, h1, by simp only [opSort, toD_v, intsD_lI, Option.map_some], h3⟩)
theorem EW.max1 (h : EW g ρ (fun t ρ1 => ∃ k ns m, Is ρ1 t k (lI ns) ∧ ns.max? = some m ∧ P (.v .F (.int m)) ρ1) X) : EW (eMax1 g) ρ P X := EW.op1 (EW.imp h fun t ρ1 h => by
  obtain ⟨k, ns, m, h1, h2, h3⟩ := h
  exact rd1_is h1 (by simp only [dL1, intsD_lI, Option.bind_some, h2, Option.map_some]) h3)
theorem EW.min1 (h : EW g ρ (fun t ρ1 => ∃ k ns m, Is ρ1 t k (lI ns) ∧ ns.min? = some m ∧ P (.v .F (.int m)) ρ1) X) : EW (eMin1 g) ρ P X := EW.op1 (EW.imp h fun t ρ1 h => by
  obtain ⟨k, ns, m, h1, h2, h3⟩ := h
  exact rd1_is h1 (by simp only [dL1, intsD_lI, Option.bind_some, h2, Option.map_some]) h3)
end
end PV

namespace PV
open PySem L2
section
variable {ρ : Ss} {P P' : Tm → Ss → Prop} {X X' : PX} {g ga gb gc g0 : Ev} {gs gk : Ss → OuL} {N N' : Ss → Prop} {R R' : Tm → Ss → Prop} {B C B' C' : Ss → Prop} {t u : Tm} {PL PL' : List Tm → Ss → Prop} {v : Nat} {it : Iv}
theorem EW.strI (h : EW g ρ (fun t ρ1 => ∃ k i, Is ρ1 t k (.int i) ∧ i.natAbs.log2 < 1920 ∧ P (.v .F (.str (toString i))) ρ1) X) : EW (eStrI g) ρ P X := EW.op1 (EW.imp h fun t ρ1 h => by
  obtain ⟨k, i, h1, h2, h3⟩ := h
  exact rd1_is h1 (by simp only [strID, if_pos h2]) h3)
theorem EW.isi {T : Ty} (h : EW g ρ (fun t ρ1 => ∃ k d a, Is ρ1 t k d ∧ tyD d = some a ∧ P (.v .F (.bl (isiB a T))) ρ1) X) : EW (eIsi T g) ρ P X := EW.op1 (EW.imp h fun t ρ1 h => by
  obtain ⟨k, d, a, h1, h2, h3⟩ := h
  exact rd1_is h1 (by simp only [isiD, h2, Option.map_some]) h3)
theorem EW.all (h : EW g ρ (fun t ρ1 => ∃ (k : Kd) (bs : List Bool), Is ρ1 t k (.lst (bs.map .bl)) ∧ P (.v .F (.bl (bs.all id))) ρ1) X) : EW (eAll g) ρ P X := EW.op1 (EW.imp h fun t ρ1 h => by
  obtain ⟨k, bs, h1, h3⟩ := h
  exact rd1_is h1 (by simp only [allD, bsD_map, Option.map_some]) h3)
def SoW (t : Tm) (ρ : Ss) (P : Tm → Ss → Prop) : Prop := O1W opSort2 t ρ P
theorem SoW.ints {k : Kd} {ns : List Int} {d : D} (h1 : Is ρ t k d) (h2 : d = lI ns ∨ d = .tup (ns.map .int)) (p : P (.v .O (lI (isort ns))) ρ) : SoW t ρ P := by
  refine ⟨_, _, h1, ?_, p⟩
  rcases h2 with rfl | rfl <;> simp only [opSort2, opSort, toD_v, intsD_map, Option.map_some]
theorem EW.join (h : EW ga ρ (fun t ρ1 => ∃ z, (derT ρ1 t).bind asS = some z ∧ EW gb ρ1 (fun u ρ2 => ∃ (k : Kd) (ys : List PySem.Str), Is ρ2 u k (.lst (ys.map .str)) ∧ (ys.map (·.length)).sum + ys.length * z.length ≤ 16777216 ∧ P (.v .F (.str (Txt.join z ys))) ρ2) X) X) : EW (eJoin ga gb) ρ P X := by
  with_unfolding_all
    unfold EW eJoin
    refine OuW.bind (OuW.imp h (fun t ρ1 h => ?_) fun _ _ h => h)
    obtain ⟨z, e, h⟩ := h
    rw [e]
    refine OuW.bind (OuW.imp h (fun u ρ2 h => ?_) fun _ _ h => h)
    obtain ⟨k, ys, h1, h2, h3⟩ := h
    have e2 : (derT ρ2 u).bind (joinO z) = some (.v .F (.str (Txt.join z ys))) := by
      rw [show derT ρ2 u = _ from h1, Option.bind_some]
      simp only [joinO, toD_v, strsD_map, Option.bind_some, if_pos h2]
    rw [e2]
    exact h3
end
end PV

namespace PV
open PySem L2
section
variable {ρ : Ss} {P P' : Tm → Ss → Prop} {X X' : PX} {g ga gb gc g0 : Ev} {gs gk : Ss → OuL} {N N' : Ss → Prop} {R R' : Tm → Ss → Prop} {B C B' C' : Ss → Prop} {t u : Tm} {PL PL' : List Tm → Ss → Prop} {v : Nat} {it : Iv}
/-! while -/
theorem SW.whileI {n : Nat} {gc : Ev} {body : Sm} (I : Nat → Ss → Prop) : ∀ (n : Nat) {ρ : Ss} {m : Nat}, m < n → I m ρ →
    (∀ m ρ, I m ρ → EW gc ρ (fun t ρ1 => BoW t (SW body ρ1 (fun ρ2 => ∃ m', m' < m ∧ I m' ρ2) R N (fun ρ2 => ∃ m', m' < m ∧ I m' ρ2) X) (N ρ1)) X) → SW (sWhile n gc body) ρ N R B C X
  | 0, ρ, m, hm, h0, hs => absurd hm (Nat.not_lt_zero _)
  | n + 1, ρ, m, hm, h0, hs => by
    with_unfolding_all
      have h := hs m ρ h0
      have ih : ∀ ρ2, (∃ m', m' < m ∧ I m' ρ2) → SW (sWhile n gc body) ρ2 N R B C X := fun ρ2 ⟨m', hm', hi⟩ => SW.whileI (n := n) I n (by omega) hi hs
      unfold EW at h
      unfold SW sWhile
      unfold SW sWhile at ih
      simp only [whileN]
      cases e : gc ρ with
      | no => rw [e] at h; exact h
      | ex a b => rw [e] at h; exact h
      | ok t ρ1 =>
        rw [e] at h
        obtain ⟨b, eb, h⟩ := h.of
        simp only [Ou.toF, eb]
        cases b with
        | false => exact h
        | true =>
          rw [if_pos rfl] at h
          unfold SW at h
          dsimp only
          cases e2 : body ρ1 <;> rw [e2] at h <;> first | exact ih _ h | exact h
theorem SW.while {n : Nat} {gc : Ev} {body : Sm} (I : Nat → Ss → Prop) (m : Nat) (hm : m < n) (h0 : I m ρ)
    (hs : ∀ m ρ, I m ρ → EW gc ρ (fun t ρ1 => BoW t (SW body ρ1 (fun ρ2 => ∃ m', m' < m ∧ I m' ρ2) R N (fun ρ2 => ∃ m', m' < m ∧ I m' ρ2) X) (N ρ1)) X) : SW (sWhile n gc body) ρ N R B C X := SW.whileI (n := n) I n hm h0 hs
/-! == of encoded data -/
structure Enc {α : Type} [DecidableEq α] (f : α → D) (g : α → PyData) (n : Nat) : Prop where
  py : ∀ a, toPy (f a) = some (g a)
  eq : ∀ a b, PyData.eqv (g a) (g b) = decide (a = b)
  lay : ∀ a, (g a).canLay0 = true
  dep : ∀ a, (g a).depth ≤ n
  ns : ∀ a, strD (f a) = none
section
variable {α β : Type} [DecidableEq α] [DecidableEq β] {f : α → D} {gp : α → PyData} {n : Nat} {f' : β → D} {gp' : β → PyData} {m : Nat}
theorem Enc.int : Enc D.int PyData.int 0 := ⟨fun _ => rfl, fun a b => by simp [PyData.eqv]; first | done | rfl, fun _ => by simp [PyData.canLay0], fun _ => by simp [PyData.depth], fun _ => rfl⟩
theorem toPys_map (e : Enc f gp n) : ∀ as : List α, toPys (as.map f) = some (as.map gp)
  | [] => rfl
  | a :: as => by simp only [List.map_cons, toPys, e.py, toPys_map e as]
theorem eqvAll_map (e : Enc f gp n) : ∀ as bs : List α, PyData.eqvAll (as.map gp) (bs.map gp) = decide (as = bs)
  | [], [] => by simp [PyData.eqvAll]
  | [], b :: bs => by simp [PyData.eqvAll]
  | a :: as, [] => by simp [PyData.eqvAll]
  | a :: as, b :: bs => by
    simp only [List.map_cons, PyData.eqvAll, e.eq, eqvAll_map e as bs]
    by_cases h1 : a = b <;> by_cases h2 : as = bs <;> simp [h1, h2]
theorem layAll_map (e : Enc f gp n) : ∀ as : List α, PyData.canLayAll0 (as.map gp) = true
  | [] => by simp [PyData.canLayAll0]
  | a :: as => by simp only [List.map_cons, PyData.canLayAll0, e.lay, layAll_map e as, Bool.and_self]
theorem depAll_map (e : Enc f gp n) : ∀ as : List α, PyData.depthAll (as.map gp) ≤ n
  | [] => by simp [PyData.depthAll]
  | a :: as => by
    have := e.dep a
    have := depAll_map e as
    simp only [List.map_cons, PyData.depthAll]
    omega
theorem Enc.lst (e : Enc f gp n) : Enc (fun as : List α => D.lst (as.map f)) (fun as => PyData.list (as.map gp)) (n + 1) :=
  ⟨fun as => by simp only [toPy, toPys_map e, Option.map_some], fun a b => by rw [PyData.eqv, eqvAll_map e], fun as => by rw [PyData.canLay0, layAll_map e], fun as => by rw [PyData.depth]; have := depAll_map e as; omega, fun _ => rfl⟩
theorem Enc.tup (e : Enc f gp n) : Enc (fun as : List α => D.tup (as.map f)) (fun as => PyData.tuple (as.map gp)) (n + 1) :=
  ⟨fun as => by simp only [toPy, toPys_map e, Option.map_some], fun a b => by rw [PyData.eqv, eqvAll_map e], fun as => by rw [PyData.canLay0, layAll_map e], fun as => by rw [PyData.depth]; have := depAll_map e as; omega, fun _ => rfl⟩
end
end
end PV

namespace PV
open PySem L2
section
variable {ρ : Ss} {P P' : Tm → Ss → Prop} {X X' : PX} {g ga gb gc gd g0 : Ev} {gs gk : Ss → OuL} {N N' : Ss → Prop} {R R' : Tm → Ss → Prop} {B C B' C' : Ss → Prop} {t u w : Tm} {PL PL' : List Tm → Ss → Prop} {v : Nat} {it : Iv}
/-! chains of ≤ over ints -/
abbrev leF : Tm → Tm → Option Tm := rd2 (dC2 fun i j => decide (i ≤ j))
/-! in over data -/
theorem EW.notInE (h : EW ga ρ (fun t ρ1 => EW gb ρ1 (fun u ρ2 => ∃ k l x y r, Is ρ2 t k x ∧ Is ρ2 u l y ∧ PV.inE true x y = some r ∧ P (.v .F r) ρ2) X) X) : EW (eNotInE ga gb) ρ P X := by with_unfolding_all exact (EW.op2 (E2W.imp h fun t u ρ h => by
  obtain ⟨k, l, x, y, r, h1, h2, h3, h4⟩ := h
  exact rd2_is h1 h2 h3 h4))
theorem ninE_l {i : Int} {ns : List Int} : inE true (.int i) (lI ns) = some (.bl (decide (i ∉ ns))) := by simp only [inE, inD, intsD_lI, Option.map_some, if_true, decide_not]
theorem EW.sortSet2 (h : EW g ρ (fun t ρ1 => ∃ k ns d, Is ρ1 t k d ∧ (d = lI ns ∨ d = .tup (ns.map .int)) ∧ ns.length < 4000 ∧ (usort ns).length < 64 ∧ P (.v .O (lI (usort ns))) ρ1) X) : EW (eSortSet2 g) ρ P X := by with_unfolding_all exact (EW.op1 (EW.imp h fun t ρ1 h => by
  obtain ⟨k, ns, d, h1, h2, hl, hu, h3⟩ := h
  refine ⟨_, _, h1, ?_, h3⟩
  have hb : ns.length + 1 < scanBound ∧ (usort ns).length < 64 := ⟨by unfold scanBound; omega, hu⟩
  rcases h2 with rfl | rfl
  · simp only [opSS2, toD_v, ssD2, intsD_lI, if_pos hb]
  · simp only [opSS2, toD_v, ssD2, intsD_map, if_pos hb]))
def Rp2W (t : Tm) (ρ : Ss) (P : Tm → Ss → Prop) : Prop := O1W (rd1 reprD2) t ρ P
theorem Rp2W.bl {k : Kd} {b : Bool} (h1 : Is ρ t k (.bl b)) (p : P (.v .F (.str (boS b))) ρ) : Rp2W t ρ P := rd1_is h1 rfl p
theorem Rp2W.int {k : Kd} {i : Int} (h1 : Is ρ t k (.int i)) (h2 : i.natAbs.log2 < 1920) (p : P (.v .F (.str (toString i))) ρ) : Rp2W t ρ P := rd1_is h1 (by simp only [reprD2, reprD, toPy, if_pos h2]) p
theorem Rp2W.go {k : Kd} {d : D} {x : Str} (h1 : Is ρ t k d) (h2 : reprD2 d = some (.str x)) (p : P (.v .F (.str x)) ρ) : Rp2W t ρ P := rd1_is h1 h2 p
theorem EW.nm {op : List D → List D → Option (D × List D)} (h : EW g ρ (fun t ρ1 => ∃ xs, t = .v .O (.lst xs) ∧ AW gs ρ1 (fun ts ρ2 => FzsW ts fun ds => ∃ x xs', op xs ds = some (x, xs') ∧ xs'.length ≤ sizeLine ∧ P (.v .F x) ρ2) X) X) : EW (eNm op g gs) ρ P X := by
  with_unfolding_all
    unfold EW eNm
    refine OuW.bind (OuW.imp h (fun t ρ1 h => ?_) fun _ _ h => h)
    obtain ⟨xs, rfl, h⟩ := h
    dsimp only
    refine OlW.bind (OlW.imp h fun ts ρ1 h => ?_)
    obtain ⟨ds, e1, x, xs', e2, e3, h⟩ := h
    simp only [e1, e2]
    rw [if_pos e3]
    exact h
theorem EW.notN (h : EW ga ρ (fun t ρ1 => EW gb ρ1 (fun u ρ2 => ∃ k l x, Is ρ2 t k x ∧ Is ρ2 u l .non ∧ P (.v .F (.bl (!isNon x))) ρ2) X) X) : EW (eNotN ga gb) ρ P X := by with_unfolding_all exact (EW.op2 (E2W.imp h fun t u ρ h => by
  obtain ⟨k, l, x, h1, h2, h3⟩ := h
  exact rd2_is h1 h2 rfl h3))
end
end PV

namespace PV
open PySem L2
section
variable {ρ ρ1 : Ss} {P P' : Tm → Ss → Prop} {X X' : PX} {g ga gb gc gi : Ev} {gs gk : Ss → OuL} {N N' : Ss → Prop} {R R' : Tm → Ss → Prop} {B C B' C' : Ss → Prop} {t u w : Tm} {i j c : Nat}
theorem OuW.ok {o : Ou} {P : Tm → Ss → Prop} (h : OuW o P X0) : ∃ t ρ, o = .ok t ρ ∧ P t ρ := by
  cases o with
  | ok t ρ => exact ⟨t, ρ, rfl, h⟩
  | ex e ρ => exact h.elim
  | no => exact h.elim
theorem OlW.ok {o : OuL} {P : List Tm → Ss → Prop} (h : OlW o P X0) : ∃ t ρ, o = .ok t ρ ∧ P t ρ := by
  cases o with
  | ok t ρ => exact ⟨t, ρ, rfl, h⟩
  | ex e ρ => exact h.elim
  | no => exact h.elim
end
end PV

namespace PV
open PySem PySem.Spec L2
section
variable {ρ : Ss} {P P' : Tm → Ss → Prop} {X X' : PX} {g ga gb gc : Ev} {gs : Ss → OuL} {N N' : Ss → Prop} {R R' : Tm → Ss → Prop} {B C B' C' : Ss → Prop} {t u : Tm}
end
end PV

namespace PV
open PySem L2
section
variable {ρ : Ss} {P P' : Tm → Ss → Prop} {X X' : PX} {g ga gb gc g0 test elt gn : Ev} {v : Nat}
end
end PV

namespace PV
open PySem PySem.Spec L2
section
variable {ρ : Ss} {P : Tm → Ss → Prop} {X : PX} {g ga gb : Ev} {gs : Ss → OuL} {N : Ss → Prop} {R : Tm → Ss → Prop} {B C : Ss → Prop}
theorem SW.raise {c : Nat} (h : EW ga ρ (fun t ρ1 => ∃ d, t = .v .F d ∧ X ⟨c, [d]⟩ ρ1) X) : SW (sRaise c ga) ρ N R B C X := by
  with_unfolding_all
    unfold SW sRaise
    refine OuW.toF (OuW.imp h (fun t ρ1 h => ?_) fun _ _ h => h)
    obtain ⟨d, rfl, h⟩ := h
    exact h
theorem SW.raise0 {c : Nat} (h : X ⟨c, []⟩ ρ) : SW (sRaise0 c) ρ N R B C X := by
  with_unfolding_all
    unfold SW sRaise0
    exact h
/-- what is asked of an error of the body -/
def TryW (kn : List Nat) (hs : List Hd) (N : Ss → Prop) (R : Tm → Ss → Prop) (B C : Ss → Prop) (X : PX) : PX := fun e ρ1 => e.c ∈ kn ∧ match hs.find? (fun h => e.c == h.c) with
  | some h => h.j < ρ1.length ∧ FlW (h.k e.ds (ρ1.set h.j none)) N R B C X
  | none => X e ρ1
theorem EW.sortR2 (h : EW g ρ (fun t ρ1 => ∃ k ns, (Is ρ1 t k (lI ns) ∨ Is ρ1 t k (.tup (ns.map .int))) ∧ P (.v .O (lI (isort ns).reverse)) ρ1) X) : EW (eSortR2 g) ρ P X := EW.op1 (EW.imp h fun t ρ1 h => by
  obtain ⟨k, ns, h1 | h1, h3⟩ := h
  · exact ⟨_, _, h1, by simp only [opSortR2, toD_v, intsD_lI, Option.map_some], h3⟩
  · exact ⟨_, _, h1, by simp only [opSortR2, toD_v, intsD_lI, Option.map_some], h3⟩)
theorem EW.step (h : EW ga ρ (fun t ρ1 => EW gb ρ1 (fun u ρ2 => ∃ k l xs i, Is ρ2 t k (.lst xs) ∧ Is ρ2 u l (.int i) ∧ elk k xs = some xs ∧ (i = 1 ∨ i = -1) ∧ P (.v .O (.lst (if i = 1 then xs else xs.reverse))) ρ2) X) X) : EW (eStep ga gb) ρ P X := by
  with_unfolding_all exact (EW.op2 (E2W.imp h fun t u ρ h => by
    obtain ⟨k, l, xs, i, h1, h2, h3, rfl | rfl, h4⟩ := h
    · exact ⟨_, _, .v .O (.lst xs), h1, h2, by simp [opStep, h3], by simpa using h4⟩
    · exact ⟨_, _, .v .O (.lst xs.reverse), h1, h2, by simp [opStep, h3], by simpa using h4⟩))
end
end PV

namespace PV
open PySem PySem.Spec L2
section
variable {ρ : Ss} {P : Tm → Ss → Prop} {X : PX} {g ga gb : Ev} {gs : Ss → OuL} {N : Ss → Prop} {R : Tm → Ss → Prop} {B C : Ss → Prop} {t : Tm}
theorem EW.dK0 (h : P (.v .O (.dK [] [])) ρ) : EW eDK0 ρ P X := by with_unfolding_all exact h
theorem EW.intB (h : EW g ρ (fun t ρ1 => ∃ k b, Is ρ1 t k (.bl b) ∧ P (.v .F (.int (if b then 1 else 0))) ρ1) X) : EW (eIntB g) ρ P X := EW.op1 (EW.imp h fun t ρ1 h => by
  obtain ⟨k, b, h1, h3⟩ := h
  exact rd1_is h1 rfl h3)
theorem EW.isB (h : EW ga ρ (fun t ρ1 => EW gb ρ1 (fun u ρ2 => ∃ k l a b, Is ρ2 t k (.bl a) ∧ Is ρ2 u l (.bl b) ∧ P (.v .F (.bl (decide (a = b)))) ρ2) X) X) : EW (eIsB ga gb) ρ P X := by with_unfolding_all exact (EW.op2 (E2W.imp h fun t u ρ h => by
  obtain ⟨k, l, a, b, h1, h2, h3⟩ := h
  exact rd2_is h1 h2 rfl h3))
theorem EW.notB (h : EW ga ρ (fun t ρ1 => EW gb ρ1 (fun u ρ2 => ∃ k l a b, Is ρ2 t k (.bl a) ∧ Is ρ2 u l (.bl b) ∧ P (.v .F (.bl (!decide (a = b)))) ρ2) X) X) : EW (eNotB ga gb) ρ P X := by with_unfolding_all exact (EW.op2 (E2W.imp h fun t u ρ h => by
  obtain ⟨k, l, a, b, h1, h2, h3⟩ := h
  exact rd2_is h1 h2 rfl h3))
def Rp3W (t : Tm) (ρ : Ss) (P : Tm → Ss → Prop) : Prop := O1W (rd1 reprD3) t ρ P
theorem EW.repr3 (h : EW g ρ (fun t ρ1 => Rp3W t ρ1 P) X) : EW (eRepr3 g) ρ P X := EW.op1 h
theorem Rp3W.bl {k : Kd} {b : Bool} (h1 : Is ρ t k (.bl b)) (p : P (.v .F (.str (boS b))) ρ) : Rp3W t ρ P := rd1_is h1 rfl p
theorem Rp3W.int {k : Kd} {i : Int} (h1 : Is ρ t k (.int i)) (h2 : i.natAbs.log2 < 1920) (p : P (.v .F (.str (toString i))) ρ) : Rp3W t ρ P := rd1_is h1 (by simp only [reprD3, if_pos h2]) p
theorem Rp3W.go {k : Kd} {d : D} {x : Str} (h1 : Is ρ t k d) (h2 : reprD3 d = some (.str x)) (p : P (.v .F (.str x)) ρ) : Rp3W t ρ P := rd1_is h1 h2 p
end
/-! data that can be shown -/
/-- data with a text: all ints short, not deep, not too many -/
structure ShD (n m : Nat) (d : D) (p : PyData) : Prop where
  py : toPyE d = some p
  sh : PyData.showable p = true
  lf : PyData.leavesShort 13 p = true
  dp : PyData.depth p ≤ n
  wt : PyData.weight p ≤ m
structure ShDs (n m : Nat) (ds : List D) (ps : List PyData) : Prop where
  py : toPyEs ds = some ps
  sh : PyData.showableAll ps = true
  lf : PyData.leavesShortAll 13 ps = true
  dp : PyData.depthAll ps ≤ n
  wt : PyData.weightAll ps ≤ m
theorem ShDs.nil : ShDs 0 0 [] [] := ⟨by simp [toPyEs], by simp [PyData.showableAll], by simp [PyData.leavesShortAll], by simp [PyData.depthAll], by simp [PyData.weightAll]⟩
theorem ShDs.cons {n n2 m m2 : Nat} {d : D} {ds : List D} {p : PyData} {ps : List PyData} (h : ShD n m d p) (hs : ShDs n2 m2 ds ps) : ShDs (max n n2) (m + 1 + m2) (d :: ds) (p :: ps) :=
  ⟨by simp only [toPyEs, h.py, hs.py], by simp only [PyData.showableAll, h.sh, hs.sh, Bool.and_self], by simp only [PyData.leavesShortAll, h.lf, hs.lf, Bool.and_self],
   by simp only [PyData.depthAll]; have := h.dp; have := hs.dp; omega, by simp only [PyData.weightAll]; have := h.wt; have := hs.wt; omega⟩
theorem ShD.mono {n n2 m m2 : Nat} {d : D} {p : PyData} (h : ShD n m d p) (h1 : n ≤ n2) (h2 : m ≤ m2) : ShD n2 m2 d p := ⟨h.py, h.sh, h.lf, Nat.le_trans h.dp h1, Nat.le_trans h.wt h2⟩
theorem ShDs.mono {n n2 m m2 : Nat} {d : List D} {p : List PyData} (h : ShDs n m d p) (h1 : n ≤ n2) (h2 : m ≤ m2) : ShDs n2 m2 d p := ⟨h.py, h.sh, h.lf, Nat.le_trans h.dp h1, Nat.le_trans h.wt h2⟩
theorem ShDs.lst {n m : Nat} {ds : List D} {ps : List PyData} (h : ShDs n m ds ps) : ShD (n + 1) m (.lst ds) (.list ps) :=
  ⟨by simp only [toPyE, h.py, Option.map_some], by simp only [PyData.showable]; exact h.sh, by simp only [PyData.leavesShort]; exact h.lf, by simp only [PyData.depth]; have := h.dp; omega, by simp only [PyData.weight]; have := h.wt; omega⟩
theorem ShDs.tup {n m : Nat} {ds : List D} {ps : List PyData} (h : ShDs n m ds ps) : ShD (n + 1) m (.tup ds) (.tuple ps) :=
  ⟨by simp only [toPyE, h.py, Option.map_some], by simp only [PyData.showable]; exact h.sh, by simp only [PyData.leavesShort]; exact h.lf, by simp only [PyData.depth]; have := h.dp; omega, by simp only [PyData.weight]; have := h.wt; omega⟩
theorem ShDs.app {n n2 m m2 : Nat} : ∀ {ds es : List D} {ps qs : List PyData}, ShDs n m ds ps → ShDs n2 m2 es qs → ShDs (max n n2) (m + m2) (ds ++ es) (ps ++ qs) := by
  intro ds
  induction ds generalizing m with
  | nil =>
    intro es ps qs h hs
    have e := h.py
    simp only [toPyEs, Option.some.injEq] at e
    subst e
    exact hs.mono (Nat.le_max_right _ _) (Nat.le_add_left _ _)
  | cons d ds ih =>
    intro es ps qs h hs
    have e := h.py
    simp only [toPyEs] at e
    split at e
    · rename_i p ps' e1 e2
      cases e
      have h1 := h.sh; have h2 := h.lf; have h3 := h.dp; have h4 := h.wt
      simp only [PyData.showableAll, Bool.and_eq_true] at h1
      simp only [PyData.leavesShortAll, Bool.and_eq_true] at h2
      simp only [PyData.depthAll] at h3
      simp only [PyData.weightAll] at h4
      have hd : ShD n (PyData.weight p) d p := ⟨e1, h1.1, h2.1, by omega, Nat.le_refl _⟩
      have hr : ShDs n (PyData.weightAll ps') ds ps' := ⟨e2, h1.2, h2.2, by omega, Nat.le_refl _⟩
      have := ShDs.cons hd (ih hr hs)
      exact this.mono (by omega) (by omega)
    · cases e
theorem ShD.repr {n m : Nat} {d : D} {p : PyData} (h : ShD n m d p) (hn : n < 60) (hm : m ≤ 1000000) (hd : ∃ ds, d = .lst ds ∨ d = .tup ds) : ∃ x, reprD3 d = some (.str x) := by
  have hs := PyData.shown_fits (B := 13) (d := p) (by decide) (by decide) h.lf (by have := h.wt; omega)
  have h1 := h.dp
  refine ⟨PyData.shown p, ?_⟩
  obtain ⟨ds, rfl | rfl⟩ := hd <;>
  · unfold reprD3
    simp only [h.py]
    rw [if_pos ⟨h.sh, by omega, hs⟩]
end PV

namespace PySem
namespace LowX_MoreSpread
open PySem.W PySem.Calls PyProof.Rows PySem.HandSPX
/-! ### the text of __init__ -/
def iA (p1 p2 : Pos) : Arguments := { posonlyargs := [], args := [{ arg := "self", annotation := none, pos := p1 }, { arg := "level", annotation := none, pos := p2 }], vararg := none, kwonlyargs := [], kw_defaults := [], kwarg := none, defaults := [] }
def iB (q1 q2 q3 q4 : Pos) : List Stmt := [.Assign [.Attribute (.Name "self" q1) "level" q2] (.Name "level" q3) q4]
def iS : Scope := { kind := .function, names := [(PySem.Str.ofString "self", .local), (PySem.Str.ofString "level", .local)], isGenerator := false, isCoroutine := false, more := [] }
/-- what the written part says of Low, at C, and of its __init__, at fI -/
structure LowTxt (K : Frag) (mg : Str → Option Value) (C fI : Addr) : Prop where
  gC : mg "MoreSpread" = some (.ref C)
  cls : ∃ nm q N bs bm sn sub ab col dd k0 k1 k2 k3 k5, K.lookup C = some (excClassObj nm q C N bs bm true sn sub ab col dd k0 k1 k2 k3 k5 "ValueError.__new__") ∧ refsVE bm = true
  sa : findIn K (.ref C) "__setattr__" = some (some (.builtin "object.__setattr__"))
  ga : findIn K (.ref C) "__getattribute__" = some (some (.builtin "BaseException.__getattribute__"))
  gg : findIn K (.ref C) "__getattr__" = some none
  noN : findIn K (.ref C) "level" = some none
  iC : findIn K (.ref C) "__init__" = some (some (.ref fI))
  tC : typeIn K (.ref fI) = some (.type "function")
  kC : keepIn K (.ref C) = true
  exC : subIn K (.ref C) (.type "BaseException") = some true
  tyC : typeIn K (.ref C) = some (.type "type")
  hdC : hasDictIn K C = true
  te : exmOne K (.ref C) (.ref C) = some true
  fn : ∃ (oc : Value) (od : Option Addr) (doc pm : Value) (an : Option Addr) (cdv ct : Value) (osl : Array (Option Value)) (p1 p2 q1 q2 q3 q4 : Pos),
    K.lookup fI = some ⟨oc, od, .func (fnOf "__init__" "MoreSpread.__init__" (iA p1 p2) (iB q1 q2 q3 q4) iS .none .none doc pm an cdv ct), osl⟩ ∧ codeIn K cdv "MoreSpread.__init__" = true
theorem one_size (v : Value) : [v].length ≤ sizeLine := by
  rw [sizeLine_eq]
  exact (by decide : 1 ≤ 16777216)
theorem ldC {M : Model} {s : Shared} {name : Str} {scope : Scope} {L a : Addr} {cd : Value} {m : Str → Option Value} {x : Str} {pos : Pos} {v : Value} {Q : Value → Shared → Prop} {A : Around} {E : Value → Shared → Prop} (hn : s.heap.Ns L m) (hv : m x = some v) (h : Q v s)
    (hk : scope.kind = .function := by rfl) (hl : (envOfC name scope L a cd).kindOf x = some .local := by rfl) (hd : (x == ("__debug__" : Str)) = false := by decide) :
    wpAny M A (eval (.Name x pos) (envOfC name scope L a cd)) Q E s := wpAny_Name (wpAny_loadName_local hk hl hn hv h) hd
/-- what __init__ leaves of a fresh exception at x -/
structure InitEnd (h h' : Heap) (x C dx t1 : Addr) (v : Value) : Prop where
  keep : ∀ b o, b ≠ x → h.get? b = some o → h'.get? b = some o
  obj : h'.get? x = some { cls := .ref C, dict := some dx, data := .fields #[.ref t1, .none, .none, .none, .bool false, .none] }
  dbig : h.objs.size ≤ dx
  dne : dx ≠ x
  ns : h'.Ns1 dx (fun y => if y = "level" then some v else none)
/-- a made Low -/
structure OwnMade (h h' : Heap) (e C d : Addr) (v : Value) : Prop where
  keep : ∀ b o, h.get? b = some o → h'.get? b = some o
  new : h.objs.size ≤ e
  obj : ∃ oe vs, h'.get? e = some oe ∧ oe.cls = .ref C ∧ oe.dict = some d ∧ oe.data = .fields vs ∧ vs[1]? = some .none ∧ vs[2]? = some .none
  dbig : h.objs.size ≤ d
  dne : d ≠ e
  ns : h'.Ns1 d (fun y => if y = "level" then some v else none)
section
variable {prog : Program} {w : World} {A : Around} {E : Value → Shared → Prop} {R : Result → Shared → Prop} {s : Shared} {K : Frag} {mg : Str → Option Value} {C fI : Addr}
theorem low_init (T : LowTxt K mg C fI) {x t0 : Addr} {v : Value} (X : K.In s.heap) (hlim : s.heap.NoLimit) (hx : s.heap.get? x = some (excO C t0)) (hnx : K.lookup x = none) (hroom : A.depth < recursionLimit)
    (hq : ∀ h' tk dx, InitEnd s.heap h' x C dx t0 v → R (.ok (.ret .none)) { s with heap := h', toks := tk }) :
    codeAny (model prog w) A (.call (.ref fI) ⟨[.ref x, v], []⟩) R s := by
  obtain ⟨oc, od, doc, pm, an, cdv, ct, osl, p1, p2, q1, q2, q3, q4, ho, hcd⟩ := T.fn
  obtain ⟨nm, q, N, bs, bm, sn, sub, ab, col, dd, k0, k1, k2, k3, k5, hC, hbm⟩ := T.cls
  have hcl : clsIn K C = some { name := nm, bases := bs, mro := .ref C :: bm, ns := N, qualname := q, hasDict := true, slotNames := sn, subclasses := sub, abstract := ab, collection := col, hasDel := false } := by unfold clsIn; rw [hC] <;> rfl
  refine Att.call_fn (binds := [("self", .ref x), ("level", v)]) X hlim ho hcd hroom (BindsTo.of_eq (by first | rfl | with_unfolding_all rfl)) (by first | rfl | decide | with_unfolding_all rfl) (fun s₁ IC => ?_) rfl rfl rfl
  obtain ⟨h₁, tk₁, rfl⟩ := IC.toInCall.same
  have k : ∀ b o, s.heap.get? b = some o → h₁.get? b = some o := IC.toInCall.keep
  have hn := IC.toInCall.ns
  have hxL : s.heap.objs.size ≠ x := Nat.ne_of_gt (Heap.lt_size hx)
  have X₁ : K.In h₁ := X.keeps k
  have hx₁ := k _ _ hx
  -- self.by = by
  show wpAny _ _ (execs _ _) _ _ _
  refine wpAny_execs_cons (plainObj_wpAny_Assign_Attribute ?_)
  refine ldC (v := v) hn (by first | rfl | with_unfolding_all rfl | kernel_rfl) (ldC (v := .ref x) hn (by first | rfl | with_unfolding_all rfl | kernel_rfl) ?_)
  refine set_plain X₁ (ox := excO C t0) (od := none) ⟨hx₁, rfl, rfl, trivial⟩ T.sa ?_
  refine exc_osa X₁ hx₁ hcl (show refsVE (.ref C :: bm) = true from hbm) rfl T.noN (fun h₃ tk₃ dx k₃ dn dne hx₃ hn₃ => ?_)
  show wpAny _ _ (execs _ _) _ _ _
  have z : s.heap.objs.size < h₁.objs.size := hn.lt
  exact wpAny_execs_nil (hq h₃ tk₃ dx ⟨fun b o hb e => k₃ b o hb (k b o e), hx₃, Nat.le_of_lt (Nat.lt_of_lt_of_le z dn), dne, hn₃⟩)
theorem low_made (T : LowTxt K mg C fI) {v : Value} (X : K.In s.heap) (hlim : s.heap.NoLimit) (hroom : A.depth + 1 < recursionLimit)
    (hq : ∀ h' tk e d, OwnMade s.heap h' e C d v → R (.ok (.ret (.ref e))) { s with heap := h', toks := tk }) :
    codeAny (model prog w) A (.call (.ref C) ⟨[v], []⟩) R s := by
  obtain ⟨nm, q, N, bs, bm, sn, sub, ab, col, dd, k0, k1, k2, k3, k5, hC, hbm⟩ := T.cls
  obtain ⟨hp, g, dr, tk, os⟩ := s
  have k : ∀ b o, hp.get? b = some o → ((hp.push (kdv_tup [v])).push (excO C hp.objs.size)).get? b = some o := fun b o e => Heap.get?_push_of_some _ (Heap.get?_push_of_some _ e)
  have hget : ((hp.push (kdv_tup [v])).push (excO C hp.objs.size)).get? (hp.objs.size + 1) = some (excO C hp.objs.size) := by heap_get
  have hnx : K.lookup (hp.objs.size + 1) = none := by
    cases e : K.lookup (hp.objs.size + 1) with
    | none => rfl
    | some o =>
      have z : hp.get? (hp.objs.size + 1) = some o := X _ _ e
      exact absurd (Nat.lt_of_succ_lt (Heap.lt_size z)) (Nat.lt_irrefl _)
  refine call_own F.excBase_ValueError (fun X => refsVE_contains X bm hbm) (X _ _ hC) (looks_findIn X T.iC) (fun self => bind_fn X self T.tC) (one_size v) ?_
  refine low_init (s := ⟨(hp.push (kdv_tup [v])).push (excO C hp.objs.size), g, dr, tk, os⟩) T (X.keeps k) (hlim.keeps k) hget hnx ?_ fun h' tk' dx ⟨k', hx, dn, dne, hns⟩ => ?_
  · show A.depth + 1 < recursionLimit
    exact hroom
  · have old : ∀ b o, hp.get? b = some o → h'.get? b = some o := fun b o e => k' b o (Nat.ne_of_lt (Nat.lt_succ_of_lt (Heap.lt_size e))) (k b o e)
    have z : hp.objs.size + 1 + 1 ≤ dx := by
      first
        | (simpa only [Heap.size_push] using dn)
        | exact dn
        | (have q := dn; rw [Heap.size_push, Heap.size_push] at q; exact q)
    exact ⟨rfl, hq h' tk' (hp.objs.size + 1) dx ⟨old, Nat.le_succ _, ⟨_, _, hx, rfl, rfl, rfl, rfl, rfl⟩, Nat.le_trans (Nat.le_trans (Nat.le_succ _) (Nat.le_succ _)) z, dne, hns⟩⟩
end
end LowX_MoreSpread
end PySem
namespace L2N
open L2 PySem PySem.Spec PyProof.Rows
theorem relO_low_MoreSpread {v : V} {v' : Value} (r : RelV v v') (f : Str) : RelO (List.lookup f [(("level" : Str), v)]) (if f = "level" then some v' else none) := by
  by_cases hw : f = "level"
  · subst hw
    rw [if_pos rfl]
    have q : List.lookup ("level" : Str) [(("level" : Str), v)] = some v := by simp [List.lookup]
    rw [q]
    exact r
  · rw [if_neg hw]
    have qw : (f == ("level" : Str)) = false := by simpa using hw
    have q2 : List.lookup f [(("level" : Str), v)] = none := by simp [List.lookup, qw]
    rw [q2]
    trivial
section
variable {X : Cx} {C fI : Addr}
/-- Low(e) -/
def tMkLow_MoreSpread (C : Addr) (ta : TA) : St → Hp → XK → Prop := fun σ H Q => ta σ H fun vs H1 => ∃ v, vs = [v] ∧ ∀ d, H1 d = none → Q (.ref C) (some d) (upd H1 d (.xd [(("level" : Str), v)]))
theorem pmk_low_MoreSpread {a : Expr} {ta : TA} {p pos : Pos} {k : Nat} (T : PySem.LowX_MoreSpread.LowTxt X.K X.mg C fI) (hr : Room k X.A) (ha : PA X [a] ta) (hg : Gl X "MoreSpread" := by rfl)
    (he : starEach (a :: []) X.env = (false, eval a X.env) :: starEach [] X.env := by rfl) (hpl : (backTo pos (starEach [] X.env)).any (·.1) = false := by rfl) :
    PMk X (.Call (.Name "MoreSpread" p) [a] [] pos) (tMkLow_MoreSpread C ta) := by
  intro pins s σ H Q I h
  refine wpAny_Call_Name_kw (ld_glob I hg T.gC ?_)
  refine PySem.W.callWith_K (h₀ := X.base) I.ok.mod.kin T.kC (thn (ha.run pos pins s σ H _ I h) fun us s1 hh => ?_) he hpl
  obtain ⟨vs, H1, I1, r1, v, ev, q1⟩ := hh
  subst ev
  refine ⟨I1.kIn, ?_⟩
  cases r1 with
  | cons rv rn =>
    rename_i v' us'
    cases rn
    show wpAny _ _ (call (.ref C) [v']) _ _ _
    have hlim := I1.nolimit
    obtain ⟨hp, g, dr, tk, os⟩ := s1
    refine wpAny_call (PySem.LowX_MoreSpread.low_made T I1.kIn hlim (by have := hr.dp; omega) fun h' tk' e d M => ?_)
    show MkP X pins σ Q (.ref e) ⟨h', g, dr, tk', os⟩
    obtain ⟨oe, fv, hoe, hc, hd, hdat, h1, h2⟩ := M.obj
    have hns := M.ns
    obtain ⟨G', g1, g2⟩ := restrict h' fun b => decide (b ≠ e)
    have gk : ∀ b, b ≠ e → G'.get? b = h'.get? b := fun b hb => g1 b (decide_eq_true hb)
    have ge : G'.get? e = none := g2 e (by simp)
    have old : ∀ b o, hp.get? b = some o → G'.get? b = some o := fun b o q => (gk b (Nat.ne_of_lt (Nat.lt_of_lt_of_le (Heap.lt_size q) M.new))).trans (M.keep b o q)
    have ob : ObjOk X.prog X.w (upd H1 d (.xd [(("level" : Str), v)])) G' d (.xd [(("level" : Str), v)]) :=
      ⟨_, hns.at (fun o q => (gk d M.dne).trans q), fun f => relO_low_MoreSpread rv f⟩
    have J : Inv X pins σ (upd H1 d (.xd [(("level" : Str), v)])) ⟨G', g, dr, tk', os⟩ := I1.laid (t' := tk') old M.dbig ob
    refine ⟨e, oe, fv, ⟨G', g, dr, tk', os⟩, _, .ref C, some d, rfl, J, fun b o q => ?_, ge, hoe, ⟨hc, hd, fun vs0 e0 => by rw [hdat] at e0; cases e0; exact h2⟩, hdat, h1, ?_, rfl, I1.bare, raises_own T.exC T.tyC, q1 d (I1.hok.fresh M.dbig)⟩
    · by_cases hb : b = e
      · have q' : G'.get? b = some o := q
        rw [hb, ge] at q'; cases q'
      · exact (gk b hb).symm.trans q
    · rw [upd_ne (Ne.symm M.dne)]
      exact I1.hok.fresh M.new
/-- raise Low(e) -/
def tRaiseLow_MoreSpread (C : Addr) (W : WX) (ta : TA) : TS := fun _ σ H => tMkLow_MoreSpread C ta σ H fun cls d H' => W cls d σ H'
theorem ps_raiseLow_MoreSpread {a : Expr} {ta : TA} {W : WX} {p pos pos2 : Pos} {k : Nat} (hc : X.calm = true) (T : PySem.LowX_MoreSpread.LowTxt X.K X.mg C fI) (hr : Room k X.A) (tk : Takes X W) (ha : PA X [a] ta) (hg : Gl X "MoreSpread" := by rfl)
    (he : starEach (a :: []) X.env = (false, eval a X.env) :: starEach [] X.env := by rfl) (hpl : (backTo pos (starEach [] X.env)).any (·.1) = false := by rfl) :
    PS X (.Raise (some (.Call (.Name "MoreSpread" p) [a] [] pos)) none pos2) (tRaiseLow_MoreSpread C W ta) := ps_raise hc tk (pmk_low_MoreSpread T hr ha hg he hpl)
/-- low.by, low the exception that the suite holds (at a; its class cls, its dict d) -/
def tByLow_MoreSpread (C : Addr) (a : Addr) (cls : Value) (d : Option Addr) (te : TE) : TE := fun σ H Q => te σ H fun x H1 => x = .ref a ∧ cls = .ref C ∧ ∃ (dd : Addr) (v : V), d = some dd ∧ H1 dd = some (.xd [(("level" : Str), v)]) ∧ Q v H1
end
end L2N


namespace PV
open PySem PySem.Spec L2
section
variable {G : Gx} {W : WX} {ios : List Nat} {X : Cx} {ga : Ev} {g : Sm}
theorem s_raise_MoreSpread {c : Nat} {C fI : Addr} {a : Expr} {p pos pos2 : Pos} {k : Nat} (hc : X.calm = true) (T : PySem.LowX_MoreSpread.LowTxt X.K X.mg C fI) (hr : Room k X.A) (tk : L2N.Takes X W) (hC : G.ca c = C) (hn : G.cn c = [("level" : Str)]) (ha : PEv X G W ios a ga) (hg : Gl X "MoreSpread" := by rfl)
    (hpa : starEach [a] X.env = (false, eval a X.env) :: starEach [] X.env := by rfl) (hpl : (backTo pos (starEach [] X.env)).any (·.1) = false := by rfl) : PSv X G W ios (.Raise (some (.Call (.Name "MoreSpread" p) [a] [] pos)) none pos2) (sRaise c ga) :=
  ps_imp (L2N.ps_raiseLow_MoreSpread hc T hr tk (pa_cons ha pa_nil hpa) hg hpa hpl) fun D σ H q => raise_end hC hn q
end
end PV

namespace LW
open PySem PySem.Spec L2 PV
/-! the text -/
def topS (i : Nat) : Stmt := PySem.Challenge.pw_soldages_k21_values_that_are_transfers.main.body.getD i (.Pass ⟨0, 0, 0, 0⟩)
abbrev s__law_feed : Stmt := topS 15
abbrev N__law_feed : List Str := ["script", "index", "cell", "great"]
theorem sc__law_feed : FnScope N__law_feed ["script", "index"] (defScope s__law_feed) := ⟨rfl, rfl, rfl, by decide +kernel, rfl, by decide +kernel, by decide +kernel⟩
abbrev s__law_take : Stmt := topS 16
abbrev N__law_take : List Str := ["feed", "size", "digit"]
theorem sc__law_take : FnScope N__law_take ["feed", "size"] (defScope s__law_take) := ⟨rfl, rfl, rfl, by decide +kernel, rfl, by decide +kernel, by decide +kernel⟩
abbrev s__law_pick : Stmt := topS 17
abbrev N__law_pick : List Str := ["feed", "options"]
theorem sc__law_pick : FnScope N__law_pick ["feed", "options"] (defScope s__law_pick) := ⟨rfl, rfl, rfl, by decide +kernel, rfl, by decide +kernel, by decide +kernel⟩
abbrev s__law_ages : Stmt := topS 18
abbrev N__law_ages : List Str := ["feed", "size", "most", "turn"]
theorem sc__law_ages : FnScope N__law_ages ["feed", "size"] (defScope s__law_ages) := ⟨rfl, rfl, rfl, by decide +kernel, rfl, by decide +kernel, by decide +kernel⟩
abbrev s__law_calmer : Stmt := topS 19
abbrev N__law_calmer : List Str := ["feed", "some_ages", "found", "turn", "low", "high", "moved"]
theorem sc__law_calmer : FnScope N__law_calmer ["feed", "some_ages"] (defScope s__law_calmer) := ⟨rfl, rfl, rfl, by decide +kernel, rfl, by decide +kernel, by decide +kernel⟩
abbrev s_level_cost : Stmt := topS 7
abbrev N_level_cost : List Str := ["ages", "level", "age"]
theorem sc_level_cost : FnScope N_level_cost ["ages", "level"] (defScope s_level_cost) := ⟨rfl, rfl, rfl, by decide +kernel, rfl, by decide +kernel, by decide +kernel⟩
abbrev s_level_against : Stmt := topS 8
abbrev N_level_against : List Str := ["first", "second", "level"]
theorem sc_level_against : FnScope N_level_against ["first", "second"] (defScope s_level_against) := ⟨rfl, rfl, rfl, by decide +kernel, rfl, by decide +kernel, by decide +kernel⟩
abbrev s_falling : Stmt := topS 9
abbrev N_falling : List Str := ["ages"]
theorem sc_falling : FnScope N_falling ["ages"] (defScope s_falling) := ⟨rfl, rfl, rfl, by decide +kernel, rfl, by decide +kernel, by decide +kernel⟩
abbrev s_next_places : Stmt := topS 10
abbrev N_next_places : List Str := ["wanted", "found", "place", "k"]
theorem sc_next_places : FnScope N_next_places ["wanted", "found"] (defScope s_next_places) := ⟨rfl, rfl, rfl, by decide +kernel, rfl, by decide +kernel, by decide +kernel⟩
abbrev s_transfers : Stmt := topS 11
abbrev N_transfers : List Str := ["first", "second", "level", "wanted", "found", "steps", "high", "low", "moved"]
theorem sc_transfers : FnScope N_transfers ["first", "second"] (defScope s_transfers) := ⟨rfl, rfl, rfl, by decide +kernel, rfl, by decide +kernel, by decide +kernel⟩
abbrev s__law_own_steps : Stmt := topS 25
abbrev N__law_own_steps : List Str := ["feed", "some_ages", "found", "steps", "turn", "low", "high", "moved"]
theorem sc__law_own_steps : FnScope N__law_own_steps ["feed", "some_ages"] (defScope s__law_own_steps) := ⟨rfl, rfl, rfl, by decide +kernel, rfl, by decide +kernel, by decide +kernel⟩
abbrev s_is_integer : Stmt := topS 5
abbrev N_is_integer : List Str := ["value"]
theorem sc_is_integer : FnScope N_is_integer ["value"] (defScope s_is_integer) := ⟨rfl, rfl, rfl, by decide +kernel, rfl, by decide +kernel, by decide +kernel⟩
abbrev s_after_transfer : Stmt := topS 12
abbrev N_after_transfer : List Str := ["ages", "step", "high", "low", "moved", "found", "one"]
theorem sc_after_transfer : FnScope N_after_transfer ["ages", "step"] (defScope s_after_transfer) := ⟨rfl, rfl, rfl, by decide +kernel, rfl, by decide +kernel, by decide +kernel⟩
abbrev s_is_transfers : Stmt := topS 13
abbrev N_is_transfers : List Str := ["first", "second", "value", "found", "step"]
theorem sc_is_transfers : FnScope N_is_transfers ["first", "second", "value"] (defScope s_is_transfers) := ⟨rfl, rfl, rfl, by decide +kernel, rfl, by decide +kernel, by decide +kernel⟩
abbrev s__law_leads : Stmt := topS 23
abbrev N__law_leads : List Str := ["first", "second", "told_one", "found", "step", "high", "low", "moved", "one"]
theorem sc__law_leads : FnScope N__law_leads ["first", "second", "told_one"] (defScope s__law_leads) := ⟨rfl, rfl, rfl, by decide +kernel, rfl, by decide +kernel, by decide +kernel⟩
abbrev s__law_own_right : Stmt := topS 26
abbrev N__law_own_right : List Str := ["feed", "some_ages", "found", "steps", "small", "high", "low", "moved", "near", "odd", "other", "deep", "turn", "step"]
theorem sc__law_own_right : FnScope N__law_own_right ["feed", "some_ages"] (defScope s__law_own_right) := ⟨rfl, rfl, rfl, by decide +kernel, rfl, by decide +kernel, by decide +kernel⟩
abbrev s__law_changed : Stmt := topS 24
abbrev N__law_changed : List Str := ["feed", "told_one", "some_ages", "found", "at", "low", "high", "odd", "case", "step"]
theorem sc__law_changed : FnScope N__law_changed ["feed", "told_one", "some_ages"] (defScope s__law_changed) := ⟨rfl, rfl, rfl, by decide +kernel, rfl, by decide +kernel, by decide +kernel⟩
abbrev s_law : Stmt := topS 27
abbrev N_law : List Str := ["script", "index", "feed", "second", "first", "told_one", "mine", "step", "turn", "other", "target", "before", "found"]
theorem sc_law : FnScope N_law ["script"] (defScope s_law) := ⟨rfl, rfl, rfl, by decide +kernel, rfl, by decide +kernel, by decide +kernel⟩
/-! the denotations -/
def d__law_feed : Sm := (sSeq (sSet 2 (eIf (eLt (eVar 1) (eLen (eVar 0))) (eIdx (eVar 0) (eVar 1)) (eAdd (eMul (eC (.int 59)) (eVar 1)) (eC (.int 23)))))
    (sSeq (sSet 3 (eSub (eAbs (eVar 2)) (ePow (eC (.int 10)) (eC (.int 18)))))
    (sRet (eLst (gCons (eMax2 (eC (.int 0)) (eVar 3)) (gCons (eMod (eAdd (eMul (eVar 2) (eC (.int 2862933555777941757))) (eMul (eC (.int 3935559000370003845)) (eAdd (eVar 1) (eC (.int 1))))) (eC (.int 2305843009213693951))) gNil))))))
def den__law_feed : Fn := defn 4 [] d__law_feed
def d__law_take : Sm := (sSeq (sIf (eGt (eIdx (eVar 0) (eC (.int 0))) (eC (.int 0)))
    (sSeq (sSet 2 (eMod (eIdx (eVar 0) (eC (.int 0))) (eVar 1)))
    (sSeq (sAsg (tgSub 0 (eC (.int 0))) (eDiv (eIdx (eVar 0) (eC (.int 0))) (eVar 1)))
    (sRet (eM (eVar 2)))))
    sNil)
    (sSeq (sAsg (tgSub 0 (eC (.int 1))) (eMod (eAdd (eMul (eIdx (eVar 0) (eC (.int 1))) (eC (.int 742938285))) (eC (.int 1013904223))) (eC (.int 2305843009213693951))))
    (sRet (eMod (eDiv (eIdx (eVar 0) (eC (.int 1))) (eC (.int 16777216))) (eVar 1)))))
def den__law_take : Fn := defn 3 [0] d__law_take
def d__law_pick : Sm := (sRet (eIdx (eVar 1) (eCall den__law_take [.io, .b] (gCons (eVar 0) (gCons (eLen (eVar 1)) gNil)))))
def den__law_pick : Fn := defn 2 [0] d__law_pick
def d__law_ages : Sm := (sSeq (sSet 2 (eCall den__law_pick [.io, .f] (gCons (eVar 0) (gCons (eF (eLst (gCons (eC (.int 2)) (gCons (eC (.int 5)) (gCons (eC (.int 12)) (gCons (ePow (eC (.int 10)) (eC (.int 6))) gNil)))))) gNil))))
    (sRet (eComp (itR1 (eVar 1)) [3] (tgN 3) eTrue (eCall den__law_take [.io, .b] (gCons (eVar 0) (gCons (eAdd (eVar 2) (eC (.int 1))) gNil))))))
def den__law_ages : Fn := defn 4 [0] d__law_ages
def d__law_calmer : Sm := (sSeq (sSet 2 (eList (eVar 1)))
    (sSeq (sFor (itR1 (eIf (eGt (eLen (eVar 2)) (eC (.int 1))) (eCall den__law_take [.io, .b] (gCons (eVar 0) (gCons (eC (.int 5)) gNil))) (eC (.int 0)))) (tgN 3)
    (sSeq (sSet 2 (eSorted (eVar 2)))
    (sSeq (sPar [4, 5] (gCons (eLm opPopAt 2 (gCons (eCall den__law_take [.io, .b] (gCons (eVar 0) (gCons (eSub (eLen (eVar 2)) (eC (.int 1))) gNil))) gNil)) (gCons (eLm opPop 2 gNil) gNil)))
    (sSeq (sSet 6 (eCall den__law_take [.io, .b] (gCons (eVar 0) (gCons (eAdd (eDiv (eSub (eVar 5) (eVar 4)) (eC (.int 2))) (eC (.int 1))) gNil))))
    (sSet 2 (eAdd (eVar 2) (eLst (gCons (eSub (eVar 5) (eVar 6)) (gCons (eAdd (eVar 4) (eVar 6)) gNil)))))))))
    (sRet (eStep (eVar 2) (eCall den__law_pick [.io, .f] (gCons (eVar 0) (gCons (eF (eLst (gCons (eC (.int 1)) (gCons (eNeg (eC (.int 1))) gNil)))) gNil)))))))
def den__law_calmer : Fn := defn 7 [0] d__law_calmer
def d_level_cost : Sm := (sRet (eSumA (eComp (itSeq (eVar 0)) [2] (tgN 2) eTrue (eMax2 (eC (.int 0)) (eSub (eVar 2) (eVar 1))))))
def den_level_cost : Fn := defn 3 [] d_level_cost
def d_level_against : Sm := (sSeq (sFor (itSeq (eSortSet2 (eAdd (eList (eVar 0)) (eList (eVar 1))))) (tgN 2)
    (sIf (eGt (eCall den_level_cost [.b, .b] (gCons (eVar 0) (gCons (eVar 2) gNil))) (eCall den_level_cost [.b, .b] (gCons (eVar 1) (gCons (eVar 2) gNil))))
    (sRet (eM (eVar 2)))
    sNil))
    (sRet eN))
def den_level_against : Fn := defn 3 [] d_level_against
def d_falling : Sm := (sRet (eSortR2 (eVar 0)))
def den_falling : Fn := defn 1 [] d_falling
def d_next_places : Sm := (sSeq (sSet 2 (eIdx (eComp (itR1 (eLen (eVar 1))) [3] (tgN 3) (eLt (eIdx (eVar 1) (eVar 3)) (eIdx (eVar 0) (eVar 3))) (eF (eVar 3))) (eC (.int 0))))
    (sRet (eTup (gCons (eMax1 (eComp (itR1 (eVar 2)) [3] (tgN 3) (eGt (eIdx (eVar 1) (eVar 3)) (eIdx (eVar 0) (eVar 3))) (eF (eVar 3)))) (gCons (eF (eVar 2)) gNil)))))
def den_next_places : Fn := defn 4 [] d_next_places
def d_transfers : Sm := (sSeq (sIf (eOr (eNe (eLen (eVar 0)) (eLen (eVar 1))) (eNe (eSumA (eVar 0)) (eSumA (eVar 1))))
    (sRaise0 1)
    sNil)
    (sSeq (sSet 2 (eCall den_level_against [.b, .b] (gCons (eVar 0) (gCons (eVar 1) gNil))))
    (sSeq (sIf (eNotN (eVar 2) eN)
    (sRaise 2 (eF (eVar 2)))
    sNil)
    (sSeq (sPar [3, 4] (gCons (eCall den_falling [.b] (gCons (eVar 0) gNil)) (gCons (eCall den_falling [.b] (gCons (eVar 1) gNil)) gNil)))
    (sSeq (sSet 5 (eLst gNil))
    (sSeq (sWhile 60 (eNe (eVar 4) (eVar 3))
    (sSeq (sAsg (tgTup (tgsCons (tgN 6) (tgsCons (tgN 7) tgsNil))) (eCall den_next_places [.b, .b] (gCons (eVar 3) (gCons (eVar 4) gNil))))
    (sSeq (sSet 8 (eMin2 (eSub (eIdx (eVar 4) (eVar 6)) (eIdx (eVar 3) (eVar 6))) (eSub (eIdx (eVar 3) (eVar 7)) (eIdx (eVar 4) (eVar 7)))))
    (sSeq (sExpr (eLm opApp 5 (gCons (eTup (gCons (eIdx (eVar 4) (eVar 6)) (gCons (eIdx (eVar 4) (eVar 7)) (gCons (eF (eVar 8)) gNil)))) gNil)))
    (sSeq (sAugSub 4 (eVar 6) (fun i j => i - j) (eVar 8))
    (sAugSub 4 (eVar 7) (fun i j => i + j) (eVar 8)))))))
    (sRet (eM (eVar 5)))))))))
def den_transfers : Fn := defn 9 [] d_transfers
def d__law_own_steps : Sm := (sSeq (sPar [2, 3] (gCons (eList (eVar 1)) (gCons (eLst gNil) gNil)))
    (sSeq (sFor (itR1 (eIf (eGt (eLen (eVar 2)) (eC (.int 1))) (eCall den__law_take [.io, .b] (gCons (eVar 0) (gCons (eC (.int 9)) gNil))) (eC (.int 0)))) (tgN 4)
    (sSeq (sSet 2 (eSorted (eVar 2)))
    (sSeq (sPar [5, 6] (gCons (eIdx (eVar 2) (eCall den__law_take [.io, .b] (gCons (eVar 0) (gCons (eSub (eLen (eVar 2)) (eC (.int 1))) gNil)))) (gCons (eIdx (eVar 2) (eNeg (eC (.int 1)))) gNil)))
    (sIf (eGt (eSub (eVar 6) (eVar 5)) (eC (.int 1)))
    (sSeq (sSet 7 (eAdd (eC (.int 1)) (eCall den__law_take [.io, .b] (gCons (eVar 0) (gCons (eDiv (eSub (eVar 6) (eVar 5)) (eC (.int 2))) gNil)))))
    (sSeq (sExpr (eLm opRem 2 (gCons (eF (eVar 5)) gNil)))
    (sSeq (sExpr (eLm opRem 2 (gCons (eF (eVar 6)) gNil)))
    (sSeq (sSet 2 (eAdd (eVar 2) (eLst (gCons (eSub (eVar 6) (eVar 7)) (gCons (eAdd (eVar 5) (eVar 7)) gNil)))))
    (sExpr (eLm opApp 3 (gCons (eTup (gCons (eF (eVar 6)) (gCons (eF (eVar 5)) (gCons (eF (eVar 7)) gNil)))) gNil)))))))
    sNil))))
    (sRet (eTup (gCons (eF (eVar 2)) (gCons (eF (eVar 3)) gNil))))))
def den__law_own_steps : Fn := defn 8 [0] d__law_own_steps
def d_is_integer : Sm := (sRet (eAnd (eIsi .int (eVar 0)) (eNot (eIsi .bl (eVar 0)))))
def den_is_integer : Fn := defn 1 [] d_is_integer
def d_after_transfer : Sm := (sSeq (sIf (eOr (eNot (eIsi .tup (eVar 1))) (eOr (eNe (eLen (eVar 1)) (eC (.int 3))) (eNot (eAll (eComp (itSeq (eVar 1)) [6] (tgN 6) eTrue (eCall den_is_integer [.b] (gCons (eVar 6) gNil)))))))
    (sRet eN)
    sNil)
    (sSeq (sAsg (tgTup (tgsCons (tgN 2) (tgsCons (tgN 3) (tgsCons (tgN 4) tgsNil)))) (eF (eVar 1)))
    (sSeq (sSet 5 (eList (eVar 0)))
    (sSeq (sIf (eOr (eLt (eVar 4) (eC (.int 1))) (eOr (eLt (eSub (eVar 2) (eVar 4)) (eAdd (eVar 3) (eVar 4))) (eNotInE (eVar 2) (eVar 5))))
    (sRet eN)
    sNil)
    (sSeq (sExpr (eLm opRem 5 (gCons (eF (eVar 2)) gNil)))
    (sSeq (sIf (eNotInE (eVar 3) (eVar 5))
    (sRet eN)
    sNil)
    (sSeq (sExpr (eLm opRem 5 (gCons (eF (eVar 3)) gNil)))
    (sRet (eAdd (eVar 5) (eLst (gCons (eSub (eVar 2) (eVar 4)) (gCons (eAdd (eVar 3) (eVar 4)) gNil))))))))))))
def den_after_transfer : Fn := defn 7 [] d_after_transfer
def d_is_transfers : Sm := (sSeq (sIf (eNot (eIsi .lst (eVar 2)))
    (sRet (eC (.bl false)))
    sNil)
    (sSeq (sSet 3 (eList (eVar 1)))
    (sSeq (sFor (itSeq (eVar 2)) (tgN 4)
    (sSeq (sSet 3 (eCall den_after_transfer [.b, .b] (gCons (eVar 3) (gCons (eVar 4) gNil))))
    (sIf (eIsN (eVar 3) eN)
    (sRet (eC (.bl false)))
    sNil)))
    (sRet (eEq (eSorted (eVar 3)) (eSorted (eVar 0)))))))
def den_is_transfers : Fn := defn 5 [] d_is_transfers
def d__law_leads : Sm := (sSeq (sIf (eNot (eIsi .lst (eVar 2)))
    (sRet (eC (.bl false)))
    sNil)
    (sSeq (sSet 3 (eList (eVar 1)))
    (sSeq (sFor (itSeq (eF (eVar 2))) (tgN 4)
    (sSeq (sIf (eOr (eNot (eIsi .tup (eVar 4))) (eNe (eLen (eVar 4)) (eC (.int 3))))
    (sRet (eC (.bl false)))
    sNil)
    (sSeq (sIf (eNe (eComp (itSeq (eF (eVar 4))) [8] (tgN 8) (eOr (eNot (eIsi .int (eVar 8))) (eIsi .bl (eVar 8))) (eF (eVar 8))) (eLst gNil))
    (sRet (eC (.bl false)))
    sNil)
    (sSeq (sAsg (tgTup (tgsCons (tgN 5) (tgsCons (tgN 6) (tgsCons (tgN 7) tgsNil)))) (eF (eVar 4)))
    (sSeq (sIf (eOr (eLt (eVar 7) (eC (.int 1))) (eOr (eLt (eSub (eVar 5) (eVar 7)) (eAdd (eVar 6) (eVar 7))) (eOr (eNotInE (eVar 5) (eVar 3)) (eNotInE (eVar 6) (eVar 3)))))
    (sRet (eC (.bl false)))
    sNil)
    (sSeq (sExpr (eLm opRem 3 (gCons (eF (eVar 5)) gNil)))
    (sSeq (sExpr (eLm opRem 3 (gCons (eF (eVar 6)) gNil)))
    (sSet 3 (eAdd (eVar 3) (eLst (gCons (eSub (eVar 5) (eVar 7)) (gCons (eAdd (eVar 6) (eVar 7)) gNil))))))))))))
    (sRet (eEq (eSorted (eVar 3)) (eSorted (eVar 0)))))))
def den__law_leads : Fn := defn 9 [] d__law_leads
def d__law_own_right : Sm := (sSeq (sAsg (tgTup (tgsCons (tgN 2) (tgsCons (tgN 3) tgsNil))) (eCall den__law_own_steps [.io, .b] (gCons (eVar 0) (gCons (eVar 1) gNil))))
    (sSeq (sSet 4 (eLst gNil))
    (sSeq (sFor (itSeq (eF (eVar 3))) (tgTup (tgsCons (tgN 5) (tgsCons (tgN 6) (tgsCons (tgN 7) tgsNil))))
    (sSet 4 (eAdd (eVar 4) (eSl (eLst (gCons (eTup (gCons (eF (eVar 5)) (gCons (eF (eVar 6)) (gCons (eC (.int 1)) gNil)))) (gCons (eTup (gCons (eSub (eVar 5) (eC (.int 1))) (gCons (eAdd (eVar 6) (eC (.int 1))) (gCons (eSub (eVar 7) (eC (.int 1))) gNil)))) gNil))) none (some (eAdd (eC (.int 1)) (eIntB (eGt (eVar 7) (eC (.int 1))))))))))
    (sSeq (sSet 8 (eLst (gCons (eF (eVar 3)) (gCons (eF (eVar 4)) (gCons (eAdd (eVar 3) (eLst (gCons (eTup (gCons (eNeg (eC (.int 1))) (gCons (eNeg (eC (.int 1))) (gCons (eC (.int 1)) gNil)))) gNil))) gNil)))))
    (sSeq (sFor (itSeq (eSl (eVar 3) none (some (eC (.int 3))))) (tgTup (tgsCons (tgN 5) (tgsCons (tgN 6) (tgsCons (tgN 7) tgsNil))))
    (sSeq (sSet 9 (eLst (gCons (eTup (gCons (eF (eVar 5)) (gCons eN (gCons (eC (.int 1)) gNil)))) (gCons (eTup (gCons (eF (eVar 5)) (gCons (eStrI (eVar 6)) (gCons (eC (.int 1)) gNil)))) (gCons (eTup (gCons eN (gCons (eF (eVar 6)) (gCons (eC (.int 1)) gNil)))) (gCons (eTup (gCons (eF (eVar 5)) (gCons (eLst (gCons (eF (eVar 6)) gNil)) (gCons (eC (.int 1)) gNil)))) (gCons (eTup gNil) (gCons (eTup (gCons (eF (eVar 6)) (gCons (eF (eVar 5)) (gCons (eSub (eC (.int 0)) (eVar 7)) gNil)))) gNil))))))))
    (sSeq (sSet 8 (eAdd (eVar 8) (eComp (itSeq (eF (eVar 9))) [13] (tgN 13) eTrue (eAdd (eLst (gCons (eF (eVar 13)) gNil)) (eVar 3)))))
    (sSeq (sSet 8 (eAdd (eVar 8) (eLst (gCons (eAdd (eVar 3) (eLst (gCons (eTup (gCons (eF (eVar 6)) (gCons (eF (eVar 5)) (gCons (eSub (eC (.int 0)) (eVar 7)) gNil)))) gNil))) (gCons (eAdd (eVar 3) (eLst (gCons (eTup (gCons (eF (eVar 5)) (gCons (eF (eVar 6)) (gCons (eF (eVar 7)) (gCons (eC (.int 0)) gNil))))) gNil))) gNil)))))
    (sExpr (eLm opApp 8 (gCons (eAdd (eLst (gCons (eTup (gCons (eF (eVar 5)) (gCons (eF (eVar 6)) (gCons (eNeg (eC (.int 1))) gNil)))) (gCons (eTup (gCons (eAdd (eVar 5) (eC (.int 1))) (gCons (eSub (eVar 6) (eC (.int 1))) (gCons (eC (.int 1)) gNil)))) gNil))) (eVar 3)) gNil)))))))
    (sSeq (sFor (itSeq (eF (eVar 8))) (tgN 10)
    (sIf (eNe (eRepr3 (eCall den_is_transfers [.b, .b, .b] (gCons (eVar 2) (gCons (eVar 1) (gCons (eVar 10) gNil))))) (eRepr3 (eCall den__law_leads [.b, .b, .f] (gCons (eVar 2) (gCons (eVar 1) (gCons (eF (eVar 10)) gNil))))))
    (sRet (eC (.bl false)))
    sNil))
    (sSeq (sIf (eOr (eNotB (eCall den_is_transfers [.b, .b, .b] (gCons (eLst (gCons (eC (.int 2)) (gCons (eC (.int 2)) gNil))) (gCons (eLst (gCons (eC (.int 1)) (gCons (eC (.int 3)) gNil))) (gCons (eLst (gCons (eTup (gCons (eC (.int 1)) (gCons (eC (.int 3)) (gCons (eNeg (eC (.int 1))) gNil)))) gNil)) gNil)))) (eC (.bl false))) (eNotB (eCall den_is_transfers [.b, .b, .b] (gCons (eLst (gCons (eC (.int 3)) (gCons (eC (.int 3)) gNil))) (gCons (eLst (gCons (eC (.int 0)) (gCons (eC (.int 6)) gNil))) (gCons (eLst (gCons (eTup (gCons (eC (.int 6)) (gCons (eC (.int 0)) (gCons (eC (.int 3)) gNil)))) gNil)) gNil)))) (eC (.bl true))))
    (sRet (eC (.bl false)))
    sNil)
    (sSeq (sSet 11 (eLst gNil))
    (sSeq (sFor (itR1 (eC (.int 46))) (tgN 12)
    (sSet 11 (eIf (eEq (eMod (eVar 12) (eC (.int 2))) (eC (.int 0))) (eLst (gCons (eF (eVar 11)) gNil)) (eTup (gCons (eF (eVar 11)) gNil)))))
    (sRet (eAnd (eIsB (eCall den_is_transfers [.b, .b, .b] (gCons (eLst (gCons (eC (.int 1)) gNil)) (gCons (eLst (gCons (eC (.int 1)) gNil)) (gCons (eLst (gCons (eF (eVar 11)) gNil)) gNil)))) (eC (.bl false))) (eIsB (eCall den_is_transfers [.b, .b, .b] (gCons (eLst (gCons (eC (.int 1)) gNil)) (gCons (eLst (gCons (eC (.int 1)) gNil)) (gCons (eLst (gCons (eTup (gCons (eC (.int 1)) (gCons (eF (eVar 11)) (gCons (eC (.int 1)) gNil)))) gNil)) gNil)))) (eC (.bl false))))))))))))))
def den__law_own_right : Fn := defn 14 [0] d__law_own_right
def d__law_changed : Sm := (sSeq (sSet 3 (eList (eVar 1)))
    (sSeq (sSet 4 (eCall den__law_take [.io, .b] (gCons (eVar 0) (gCons (eAdd (eLen (eVar 3)) (eC (.int 1))) gNil))))
    (sSeq (sPar [5, 6] (gCons (eMin1 (eAdd (eVar 2) (eLst (gCons (eC (.int 9)) gNil)))) (gCons (eMax1 (eAdd (eVar 2) (eLst (gCons (eC (.int 0)) gNil)))) gNil)))
    (sSeq (sSet 7 (eLst (gCons (eTup (gCons (eF (eVar 6)) (gCons (eF (eVar 5)) (gCons (eC (.int 1)) gNil)))) (gCons (eTup (gCons (eF (eVar 6)) (gCons (eF (eVar 5)) (gCons (eC (.int 0)) gNil)))) (gCons (eTup (gCons (eF (eVar 6)) (gCons (eF (eVar 5)) (gCons (eNeg (eC (.int 1))) gNil)))) (gCons (eTup (gCons (eF (eVar 5)) (gCons (eF (eVar 6)) (gCons (eC (.int 1)) gNil)))) (gCons (eTup (gCons (eF (eVar 6)) (gCons (eF (eVar 6)) (gCons (eC (.int 1)) gNil)))) (gCons (eTup (gCons (eAdd (eVar 6) (eC (.int 1))) (gCons (eF (eVar 5)) (gCons (eC (.int 1)) gNil)))) gNil))))))))
    (sSeq (sSet 7 (eAdd (eVar 7) (eLst (gCons (eTup (gCons (eF (eVar 6)) (gCons (eF (eVar 5)) (gCons (eDiv (eSub (eVar 6) (eVar 5)) (eC (.int 2))) gNil)))) (gCons (eTup (gCons (eF (eVar 6)) (gCons (eF (eVar 5)) (gCons (eC (.bl true)) gNil)))) (gCons (eTup (gCons (eF (eVar 6)) (gCons (eC (.bl false)) (gCons (eC (.int 1)) gNil)))) (gCons (eLst (gCons (eF (eVar 6)) (gCons (eF (eVar 5)) (gCons (eC (.int 1)) gNil)))) (gCons (eTup (gCons (eF (eVar 6)) (gCons (eF (eVar 5)) gNil))) (gCons eN gNil)))))))))
    (sSeq (sSet 7 (eAdd (eVar 7) (eLst (gCons (eTup (gCons (eF (eVar 6)) (gCons (eF (eVar 5)) (gCons (eC (.str "1")) gNil)))) (gCons (eTup (gCons (eLst (gCons (eF (eVar 6)) gNil)) (gCons (eF (eVar 5)) (gCons (eC (.int 1)) gNil)))) (gCons eDK0 (gCons (eTup (gCons (eF (eVar 6)) (gCons (eF (eVar 5)) (gCons (eAdd (eDiv (eSub (eVar 6) (eVar 5)) (eC (.int 2))) (eC (.int 1))) gNil)))) (gCons (eTup (gCons (eF (eVar 6)) (gCons (eF (eVar 5)) (gCons (eSub (eVar 6) (eVar 5)) gNil)))) gNil))))))))
    (sSeq (sSet 8 (eCall den__law_take [.io, .b] (gCons (eVar 0) (gCons (eC (.int 7)) gNil))))
    (sSeq (sIf (eEq (eVar 8) (eC (.int 0)))
    (sRet (eAdd (eSl (eVar 3) none (some (eVar 4))) (eSl (eVar 3) (some (eAdd (eVar 4) (eC (.int 1)))) none)))
    sNil)
    (sSeq (sIf (eEq (eVar 8) (eC (.int 1)))
    (sRet (eAdd (eAdd (eSl (eVar 3) none (some (eVar 4))) (eLst (gCons (eCall den__law_pick [.io, .f] (gCons (eVar 0) (gCons (eF (eVar 7)) gNil))) gNil))) (eSl (eVar 3) (some (eVar 4)) none)))
    sNil)
    (sSeq (sIf (eEq (eVar 8) (eC (.int 2)))
    (sRet (eAdd (eAdd (eSl (eVar 3) none (some (eVar 4))) (eLst (gCons (eCall den__law_pick [.io, .f] (gCons (eVar 0) (gCons (eF (eVar 7)) gNil))) gNil))) (eSl (eVar 3) (some (eAdd (eVar 4) (eC (.int 1)))) none)))
    sNil)
    (sSeq (sIf (eEq (eVar 8) (eC (.int 3)))
    (sRet (eRev (eVar 3)))
    sNil)
    (sSeq (sIf (eEq (eVar 8) (eC (.int 4)))
    (sRet (eCall den__law_pick [.io, .f] (gCons (eVar 0) (gCons (eF (eLst (gCons (eTuple (eVar 3)) (gCons eN (gCons eDK0 (gCons (eC (.str "")) (gCons (eC (.int 7)) (gCons (eLst (gCons (eF (eVar 3)) gNil)) gNil)))))))) gNil))))
    sNil)
    (sSeq (sIf (eEq (eVar 8) (eC (.int 5)))
    (sRet (eAdd (eAdd (eSl (eVar 3) none (some (eVar 4))) (eComp (itSeq (eSl (eVar 3) (some (eVar 4)) (some (eAdd (eVar 4) (eC (.int 1)))))) [9] (tgN 9) eTrue (eTup (gCons (eIdx (eVar 9) (eC (.int 0))) (gCons (eIdx (eVar 9) (eC (.int 1))) (gCons (eAdd (eIdx (eVar 9) (eC (.int 2))) (eC (.int 1))) gNil)))))) (eSl (eVar 3) (some (eAdd (eVar 4) (eC (.int 1)))) none)))
    sNil)
    (sRet (eAdd (eVar 3) (eVar 3))))))))))))))))
def den__law_changed : Fn := defn 10 [0] d__law_changed
def d_law : Sm := (sSeq (sFor (itR1 (eMax2 (eC (.int 1)) (eMin2 (eC (.int 4)) (eLen (eVar 0))))) (tgN 1)
    (sSeq (sSet 2 (eCall den__law_feed [.b, .b] (gCons (eVar 0) (gCons (eVar 1) gNil))))
    (sSeq (sSet 3 (eCall den__law_ages [.io, .b] (gCons (eVar 2) (gCons (eCall den__law_take [.io, .b] (gCons (eVar 2) (gCons (eC (.int 7)) gNil))) gNil))))
    (sSeq (sSet 4 (eCall den__law_calmer [.io, .b] (gCons (eVar 2) (gCons (eVar 3) gNil))))
    (sSeq (sSet 5 (eCall den_transfers [.b, .b] (gCons (eVar 4) (gCons (eVar 3) gNil))))
    (sSeq (sIf (eNot (eCall den__law_own_right [.io, .b] (gCons (eVar 2) (gCons (eVar 3) gNil))))
    (sRet (eC (.bl false)))
    sNil)
    (sSeq (sSet 6 (eCall den_transfers [.b, .b] (gCons (eVar 4) (gCons (eVar 3) gNil))))
    (sSeq (sIf (eNotB (eCall den_is_transfers [.b, .b, .b] (gCons (eVar 4) (gCons (eVar 3) (gCons (eVar 6) gNil)))) (eC (.bl true)))
    (sRet (eC (.bl false)))
    sNil)
    (sSeq (sFor (itSeq (eTup (gCons (eTup (gCons (eC (.int 0)) (gCons (ePow (eC (.int 10)) (eC (.int 9))) (gCons (eC (.int 1)) gNil)))) (gCons eN gNil)))) (tgN 7)
    (sSeq (sExpr (eLm opApp 6 (gCons (eF (eVar 7)) gNil)))
    (sIf (eNotB (eCall den_is_transfers [.b, .b, .b] (gCons (eVar 4) (gCons (eVar 3) (gCons (eVar 6) gNil)))) (eC (.bl false)))
    (sRet (eC (.bl false)))
    sNil)))
    (sFor (itR1 (eC (.int 10))) (tgN 8)
    (sSeq (sSet 9 (eF (eIf (eGt (eVar 8) (eC (.int 0))) (eCall den__law_changed [.io, .b, .b] (gCons (eVar 2) (gCons (eVar 5) (gCons (eVar 3) gNil)))) (eVar 5))))
    (sSeq (sSet 10 (eCall den__law_pick [.io, .f] (gCons (eVar 2) (gCons (eF (eLst (gCons (eF (eVar 4)) (gCons (eF (eVar 4)) (gCons (eF (eVar 3)) gNil))))) gNil))))
    (sSeq (sPar [11, 12] (gCons (eRepr3 (eLst (gCons (eF (eVar 9)) (gCons (eF (eVar 10)) (gCons (eF (eVar 3)) gNil))))) (gCons (eCall den_is_transfers [.b, .b, .b] (gCons (eVar 10) (gCons (eVar 3) (gCons (eVar 9) gNil)))) gNil)))
    (sIf (eOr (eNe (eRepr3 (eVar 12)) (eRepr3 (eCall den__law_leads [.b, .b, .f] (gCons (eVar 10) (gCons (eVar 3) (gCons (eF (eVar 9)) gNil)))))) (eNe (eRepr3 (eLst (gCons (eF (eVar 9)) (gCons (eF (eVar 10)) (gCons (eF (eVar 3)) gNil))))) (eVar 11)))
    (sRet (eC (.bl false)))
    sNil))))))))))))))
    (sRet (eC (.bl true))))
def den_law : Fn := defn 13 [] d_law
/-! what the top has written -/
def cnL : Nat → List Str
  | 1 => []
  | 2 => ["level"]
  | _ => []
def caL (C_NotComparable C_MoreSpread : Addr) : Nat → Addr
  | 1 => C_NotComparable
  | 2 => C_MoreSpread
  | _ => 0
abbrev gx (K : PySem.W.Frag) (C_NotComparable C_MoreSpread : Addr) (w : World) : Gx := ⟨K, caL C_NotComparable C_MoreSpread, cnL, w⟩
structure Tx (K : PySem.W.Frag) (mg : Str → Option Value) (C_NotComparable C_MoreSpread : Addr) (f__law_feed f__law_take f__law_pick f__law_ages f__law_calmer f_level_cost f_level_against f_falling f_next_places f_transfers f__law_own_steps f_is_integer f_after_transfer f_is_transfers f__law_leads f__law_own_right f__law_changed f_law : Addr) (fX_MoreSpread : Addr) (fd__law_feed fd__law_take fd__law_pick fd__law_ages fd__law_calmer fd_level_cost fd_level_against fd_falling fd_next_places fd_transfers fd__law_own_steps fd_is_integer fd_after_transfer fd_is_transfers fd__law_leads fd__law_own_right fd__law_changed fd_law : FuncData) : Prop where
  F__law_feed : FunX K "_law_feed" "_law_feed" s__law_feed f__law_feed fd__law_feed
  m__law_feed : mg "_law_feed" = some (.ref f__law_feed)
  k__law_feed : PySem.W.keepIn K (.ref f__law_feed) = true
  b__law_feed : Binds K fd__law_feed ["script", "index"] []
  F__law_take : FunX K "_law_take" "_law_take" s__law_take f__law_take fd__law_take
  m__law_take : mg "_law_take" = some (.ref f__law_take)
  k__law_take : PySem.W.keepIn K (.ref f__law_take) = true
  b__law_take : Binds K fd__law_take ["feed", "size"] []
  F__law_pick : FunX K "_law_pick" "_law_pick" s__law_pick f__law_pick fd__law_pick
  m__law_pick : mg "_law_pick" = some (.ref f__law_pick)
  k__law_pick : PySem.W.keepIn K (.ref f__law_pick) = true
  b__law_pick : Binds K fd__law_pick ["feed", "options"] []
  F__law_ages : FunX K "_law_ages" "_law_ages" s__law_ages f__law_ages fd__law_ages
  m__law_ages : mg "_law_ages" = some (.ref f__law_ages)
  k__law_ages : PySem.W.keepIn K (.ref f__law_ages) = true
  b__law_ages : Binds K fd__law_ages ["feed", "size"] []
  F__law_calmer : FunX K "_law_calmer" "_law_calmer" s__law_calmer f__law_calmer fd__law_calmer
  m__law_calmer : mg "_law_calmer" = some (.ref f__law_calmer)
  k__law_calmer : PySem.W.keepIn K (.ref f__law_calmer) = true
  b__law_calmer : Binds K fd__law_calmer ["feed", "some_ages"] []
  F_level_cost : FunX K "level_cost" "level_cost" s_level_cost f_level_cost fd_level_cost
  m_level_cost : mg "level_cost" = some (.ref f_level_cost)
  k_level_cost : PySem.W.keepIn K (.ref f_level_cost) = true
  b_level_cost : Binds K fd_level_cost ["ages", "level"] []
  F_level_against : FunX K "level_against" "level_against" s_level_against f_level_against fd_level_against
  m_level_against : mg "level_against" = some (.ref f_level_against)
  k_level_against : PySem.W.keepIn K (.ref f_level_against) = true
  b_level_against : Binds K fd_level_against ["first", "second"] []
  F_falling : FunX K "falling" "falling" s_falling f_falling fd_falling
  m_falling : mg "falling" = some (.ref f_falling)
  k_falling : PySem.W.keepIn K (.ref f_falling) = true
  b_falling : Binds K fd_falling ["ages"] []
  F_next_places : FunX K "next_places" "next_places" s_next_places f_next_places fd_next_places
  m_next_places : mg "next_places" = some (.ref f_next_places)
  k_next_places : PySem.W.keepIn K (.ref f_next_places) = true
  b_next_places : Binds K fd_next_places ["wanted", "found"] []
  F_transfers : FunX K "transfers" "transfers" s_transfers f_transfers fd_transfers
  m_transfers : mg "transfers" = some (.ref f_transfers)
  k_transfers : PySem.W.keepIn K (.ref f_transfers) = true
  b_transfers : Binds K fd_transfers ["first", "second"] []
  F__law_own_steps : FunX K "_law_own_steps" "_law_own_steps" s__law_own_steps f__law_own_steps fd__law_own_steps
  m__law_own_steps : mg "_law_own_steps" = some (.ref f__law_own_steps)
  k__law_own_steps : PySem.W.keepIn K (.ref f__law_own_steps) = true
  b__law_own_steps : Binds K fd__law_own_steps ["feed", "some_ages"] []
  F_is_integer : FunX K "is_integer" "is_integer" s_is_integer f_is_integer fd_is_integer
  m_is_integer : mg "is_integer" = some (.ref f_is_integer)
  k_is_integer : PySem.W.keepIn K (.ref f_is_integer) = true
  b_is_integer : Binds K fd_is_integer ["value"] []
  F_after_transfer : FunX K "after_transfer" "after_transfer" s_after_transfer f_after_transfer fd_after_transfer
  m_after_transfer : mg "after_transfer" = some (.ref f_after_transfer)
  k_after_transfer : PySem.W.keepIn K (.ref f_after_transfer) = true
  b_after_transfer : Binds K fd_after_transfer ["ages", "step"] []
  F_is_transfers : FunX K "is_transfers" "is_transfers" s_is_transfers f_is_transfers fd_is_transfers
  m_is_transfers : mg "is_transfers" = some (.ref f_is_transfers)
  k_is_transfers : PySem.W.keepIn K (.ref f_is_transfers) = true
  b_is_transfers : Binds K fd_is_transfers ["first", "second", "value"] []
  F__law_leads : FunX K "_law_leads" "_law_leads" s__law_leads f__law_leads fd__law_leads
  m__law_leads : mg "_law_leads" = some (.ref f__law_leads)
  k__law_leads : PySem.W.keepIn K (.ref f__law_leads) = true
  b__law_leads : Binds K fd__law_leads ["first", "second", "told_one"] []
  F__law_own_right : FunX K "_law_own_right" "_law_own_right" s__law_own_right f__law_own_right fd__law_own_right
  m__law_own_right : mg "_law_own_right" = some (.ref f__law_own_right)
  k__law_own_right : PySem.W.keepIn K (.ref f__law_own_right) = true
  b__law_own_right : Binds K fd__law_own_right ["feed", "some_ages"] []
  F__law_changed : FunX K "_law_changed" "_law_changed" s__law_changed f__law_changed fd__law_changed
  m__law_changed : mg "_law_changed" = some (.ref f__law_changed)
  k__law_changed : PySem.W.keepIn K (.ref f__law_changed) = true
  b__law_changed : Binds K fd__law_changed ["feed", "told_one", "some_ages"] []
  F_law : FunX K "law" "law" s_law f_law fd_law
  m_law : mg "law" = some (.ref f_law)
  k_law : PySem.W.keepIn K (.ref f_law) = true
  b_law : Binds K fd_law ["script"] []
  xq_NotComparable : PySem.W.excIn K C_NotComparable [.type "ValueError", .type "Exception", .type "BaseException", .type "object"] "ValueError.__new__" = true
  xg_NotComparable : mg "NotComparable" = some (.ref C_NotComparable)
  xk_NotComparable : PySem.W.keepIn K (.ref C_NotComparable) = true
  xe_NotComparable : PySem.W.subIn K (.ref C_NotComparable) (.type "BaseException") = some true
  xy_NotComparable : PySem.W.typeIn K (.ref C_NotComparable) = some (.type "type")
  xt_NotComparable_NotComparable : PySem.W.exmOne K (.ref C_NotComparable) (.ref C_NotComparable) = some true
  xt_NotComparable_MoreSpread : PySem.W.exmOne K (.ref C_NotComparable) (.ref C_MoreSpread) = some false
  x_MoreSpread : PySem.LowX_MoreSpread.LowTxt K mg C_MoreSpread fX_MoreSpread
  xt_MoreSpread_NotComparable : PySem.W.exmOne K (.ref C_MoreSpread) (.ref C_NotComparable) = some false
  xt_MoreSpread_MoreSpread : PySem.W.exmOne K (.ref C_MoreSpread) (.ref C_MoreSpread) = some true
  z_abs : mg "abs" = none
  z_all : mg "all" = none
  z_bool : mg "bool" = none
  z_int : mg "int" = none
  z_isinstance : mg "isinstance" = none
  z_len : mg "len" = none
  z_list : mg "list" = none
  z_max : mg "max" = none
  z_min : mg "min" = none
  z_range : mg "range" = none
  z_repr : mg "repr" = none
  z_set : mg "set" = none
  z_sorted : mg "sorted" = none
  z_str : mg "str" = none
  z_sum : mg "sum" = none
  z_tuple : mg "tuple" = none
section
variable {P : Program} {w : World} {K : PySem.W.Frag} {mg : Str → Option Value} {base : Heap} {C_NotComparable C_MoreSpread : Addr} {f__law_feed f__law_take f__law_pick f__law_ages f__law_calmer f_level_cost f_level_against f_falling f_next_places f_transfers f__law_own_steps f_is_integer f_after_transfer f_is_transfers f__law_leads f__law_own_right f__law_changed f_law : Addr} {fX_MoreSpread : Addr} {fd__law_feed fd__law_take fd__law_pick fd__law_ages fd__law_calmer fd_level_cost fd_level_against fd_falling fd_next_places fd_transfers fd__law_own_steps fd_is_integer fd_after_transfer fd_is_transfers fd__law_leads fd__law_own_right fd__law_changed fd_law : FuncData}
theorem ok__law_feed (T : Tx K mg C_NotComparable C_MoreSpread f__law_feed f__law_take f__law_pick f__law_ages f__law_calmer f_level_cost f_level_against f_falling f_next_places f_transfers f__law_own_steps f_is_integer f_after_transfer f_is_transfers f__law_leads f__law_own_right f__law_changed f_law fX_MoreSpread fd__law_feed fd__law_take fd__law_pick fd__law_ages fd__law_calmer fd_level_cost fd_level_against fd_falling fd_next_places fd_transfers fd__law_own_steps fd_is_integer fd_after_transfer fd_is_transfers fd__law_leads fd__law_own_right fd__law_changed fd_law) : FnG P w K mg base 1 f__law_feed fd__law_feed ["script", "index"] (spV (gx K C_NotComparable C_MoreSpread w) 2 [] den__law_feed) :=
  fn_v (k := 0) (G := gx K C_NotComparable C_MoreSpread w) (N := N__law_feed) (ps := ["script", "index"]) T.F__law_feed sc__law_feed (by decide) [] fun cdv A outer s0 H E m =>
    (b_cons (s_set (i := 2) sc__law_feed.nd (by decide) (v_ifx (t_lt (v_var 1) (v_len rfl T.z_len (v_var 0))) (v_idx rfl (v_var 0) (v_var 1)) (v_add (v_mul v_int (v_var 1)) v_int)))
    (b_cons (s_set (i := 3) sc__law_feed.nd (by decide) (v_sub (v_abs T.z_abs (v_var 2)) (v_pow v_int v_int)))
    (b_one (s_ret (v_lst (va_cons (v_max2 rfl T.z_max v_int (v_var 3)) (va_cons (v_mod (v_add (v_mul (v_var 2) v_int) (v_mul v_int (v_add (v_var 1) v_int))) v_int) va_nil)))))))
theorem ok__law_take (T : Tx K mg C_NotComparable C_MoreSpread f__law_feed f__law_take f__law_pick f__law_ages f__law_calmer f_level_cost f_level_against f_falling f_next_places f_transfers f__law_own_steps f_is_integer f_after_transfer f_is_transfers f__law_leads f__law_own_right f__law_changed f_law fX_MoreSpread fd__law_feed fd__law_take fd__law_pick fd__law_ages fd__law_calmer fd_level_cost fd_level_against fd_falling fd_next_places fd_transfers fd__law_own_steps fd_is_integer fd_after_transfer fd_is_transfers fd__law_leads fd__law_own_right fd__law_changed fd_law) : FnG P w K mg base 1 f__law_take fd__law_take ["feed", "size"] (spV (gx K C_NotComparable C_MoreSpread w) 2 [0] den__law_take) :=
  fn_v (k := 0) (G := gx K C_NotComparable C_MoreSpread w) (N := N__law_take) (ps := ["feed", "size"]) T.F__law_take sc__law_take (by decide) [0] fun cdv A outer s0 H E m =>
    (b_cons (s_if (t_gt (v_idx rfl (v_var 0) v_int) v_int)
    (b_cons (s_set (i := 2) sc__law_take.nd (by decide) (v_mod (v_idx rfl (v_var 0) v_int) (v_var 1)))
    (b_cons (s_asg (v_div (v_idx rfl (v_var 0) v_int) (v_var 1)) (g_sub (W := fun cls d _ H => E cls d H) (i := 0) rfl (by first | exact Or.inl rfl | exact Or.inr (Or.inl rfl) | exact Or.inr (Or.inr rfl)) (by decide) (by decide) v_int))
    (b_one (s_ret (v_mv (v_var 2))))))
    b_nil)
    (b_cons (s_asg (v_mod (v_add (v_mul (v_idx rfl (v_var 0) v_int) v_int) v_int) v_int) (g_sub (W := fun cls d _ H => E cls d H) (i := 0) rfl (by first | exact Or.inl rfl | exact Or.inr (Or.inl rfl) | exact Or.inr (Or.inr rfl)) (by decide) (by decide) v_int))
    (b_one (s_ret (v_mod (v_div (v_idx rfl (v_var 0) v_int) v_int) (v_var 1))))))
theorem ok__law_pick (T : Tx K mg C_NotComparable C_MoreSpread f__law_feed f__law_take f__law_pick f__law_ages f__law_calmer f_level_cost f_level_against f_falling f_next_places f_transfers f__law_own_steps f_is_integer f_after_transfer f_is_transfers f__law_leads f__law_own_right f__law_changed f_law fX_MoreSpread fd__law_feed fd__law_take fd__law_pick fd__law_ages fd__law_calmer fd_level_cost fd_level_against fd_falling fd_next_places fd_transfers fd__law_own_steps fd_is_integer fd_after_transfer fd_is_transfers fd__law_leads fd__law_own_right fd__law_changed fd_law) : FnG P w K mg base 2 f__law_pick fd__law_pick ["feed", "options"] (spV (gx K C_NotComparable C_MoreSpread w) 2 [0] den__law_pick) :=
  fn_v (k := 1) (G := gx K C_NotComparable C_MoreSpread w) (N := N__law_pick) (ps := ["feed", "options"]) T.F__law_pick sc__law_pick (by decide) [0] fun cdv A outer s0 H E m =>
    (b_one (s_ret (v_idx rfl (v_var 1) (v_call (k := 1) ((ok__law_take (P := P) (w := w) (base := base) T).mono (by decide)) (m.rm.mono (by decide)) m.tk T.m__law_take T.k__law_take T.b__law_take (va_cons (v_var 0) (va_cons (v_len rfl T.z_len (v_var 1)) va_nil))))))
theorem ok__law_ages (T : Tx K mg C_NotComparable C_MoreSpread f__law_feed f__law_take f__law_pick f__law_ages f__law_calmer f_level_cost f_level_against f_falling f_next_places f_transfers f__law_own_steps f_is_integer f_after_transfer f_is_transfers f__law_leads f__law_own_right f__law_changed f_law fX_MoreSpread fd__law_feed fd__law_take fd__law_pick fd__law_ages fd__law_calmer fd_level_cost fd_level_against fd_falling fd_next_places fd_transfers fd__law_own_steps fd_is_integer fd_after_transfer fd_is_transfers fd__law_leads fd__law_own_right fd__law_changed fd_law) : FnG P w K mg base 3 f__law_ages fd__law_ages ["feed", "size"] (spV (gx K C_NotComparable C_MoreSpread w) 2 [0] den__law_ages) :=
  fn_v (k := 2) (G := gx K C_NotComparable C_MoreSpread w) (N := N__law_ages) (ps := ["feed", "size"]) T.F__law_ages sc__law_ages (by decide) [0] fun cdv A outer s0 H E m =>
    (b_cons (s_set (i := 2) sc__law_ages.nd (by decide) (v_call (k := 2) ((ok__law_pick (P := P) (w := w) (base := base) T).mono (by decide)) (m.rm.mono (by decide)) m.tk T.m__law_pick T.k__law_pick T.b__law_pick (va_cons (v_var 0) (va_cons (v_fz (v_lst (va_cons v_int (va_cons v_int (va_cons v_int (va_cons (v_pow v_int v_int) va_nil)))))) va_nil))))
    (b_one (s_ret (v_comp (own := [("turn", 3)]) rfl sc__law_ages.nd (i_r1 T.z_range (v_var 1)) (by show BlkOk N__law_ages (defScope s__law_ages) _ _; exact ⟨rfl, by decide +kernel, by decide +kernel, by decide +kernel, by decide +kernel⟩) (fun _ _ _ _ _ => (g_name 3 sc__law_ages.nd (by decide))) (fun _ _ _ _ _ => t_yes) (fun _ _ _ _ _ => (v_call (k := 1) ((ok__law_take (P := P) (w := w) (base := base) T).mono (by decide)) (m.rm.mono (by decide)) takesW0 T.m__law_take T.k__law_take T.b__law_take (va_cons (v_var 0) (va_cons (v_add (v_var 2) v_int) va_nil)))) (by decide) (by decide)))))
theorem ok__law_calmer (T : Tx K mg C_NotComparable C_MoreSpread f__law_feed f__law_take f__law_pick f__law_ages f__law_calmer f_level_cost f_level_against f_falling f_next_places f_transfers f__law_own_steps f_is_integer f_after_transfer f_is_transfers f__law_leads f__law_own_right f__law_changed f_law fX_MoreSpread fd__law_feed fd__law_take fd__law_pick fd__law_ages fd__law_calmer fd_level_cost fd_level_against fd_falling fd_next_places fd_transfers fd__law_own_steps fd_is_integer fd_after_transfer fd_is_transfers fd__law_leads fd__law_own_right fd__law_changed fd_law) : FnG P w K mg base 3 f__law_calmer fd__law_calmer ["feed", "some_ages"] (spV (gx K C_NotComparable C_MoreSpread w) 2 [0] den__law_calmer) :=
  fn_v (k := 2) (G := gx K C_NotComparable C_MoreSpread w) (N := N__law_calmer) (ps := ["feed", "some_ages"]) T.F__law_calmer sc__law_calmer (by decide) [0] fun cdv A outer s0 H E m =>
    (b_cons (s_set (i := 2) sc__law_calmer.nd (by decide) (v_list T.z_list (v_var 1)))
    (b_cons (s_for m.po rfl (i_r1 T.z_range (v_ifx (t_gt (v_len rfl T.z_len (v_var 2)) v_int) (v_call (k := 1) ((ok__law_take (P := P) (w := w) (base := base) T).mono (by decide)) (m.rm.mono (by decide)) m.tk T.m__law_take T.k__law_take T.b__law_take (va_cons (v_var 0) (va_cons v_int va_nil))) v_int)) (g_name 3 sc__law_calmer.nd (by decide))
    (b_cons (s_set (i := 2) sc__law_calmer.nd (by decide) (v_sorted rfl T.z_sorted (v_var 2)))
    (b_cons (s_par (i := 4) (j := 5) rfl sc__law_calmer.nd (by decide) (by decide) (va_cons (v_lm (i := 2) lm_popAt PySem.F.slot_list_pop PySem.F.type_list_pop mt_popAt rfl (by first | exact Or.inl rfl | exact Or.inr (Or.inl rfl) | exact Or.inr (Or.inr rfl)) (by decide) (by decide) (va_cons (v_call (k := 1) ((ok__law_take (P := P) (w := w) (base := base) T).mono (by decide)) (m.rm.mono (by decide)) m.tk T.m__law_take T.k__law_take T.b__law_take (va_cons (v_var 0) (va_cons (v_sub (v_len rfl T.z_len (v_var 2)) v_int) va_nil))) va_nil)) (va_cons (v_lm0 (i := 2) lm_pop PySem.F.slot_list_pop PySem.F.type_list_pop mt_pop rfl (by first | exact Or.inl rfl | exact Or.inr (Or.inl rfl) | exact Or.inr (Or.inr rfl)) (by decide) (by decide)) va_nil)))
    (b_cons (s_set (i := 6) sc__law_calmer.nd (by decide) (v_call (k := 1) ((ok__law_take (P := P) (w := w) (base := base) T).mono (by decide)) (m.rm.mono (by decide)) m.tk T.m__law_take T.k__law_take T.b__law_take (va_cons (v_var 0) (va_cons (v_add (v_div (v_sub (v_var 5) (v_var 4)) v_int) v_int) va_nil))))
    (b_one (s_set (i := 2) sc__law_calmer.nd (by decide) (v_add (v_var 2) (v_lst (va_cons (v_sub (v_var 5) (v_var 6)) (va_cons (v_add (v_var 4) (v_var 6)) va_nil))))))))))
    (b_one (s_ret (v_step rfl (v_var 2) (v_call (k := 2) ((ok__law_pick (P := P) (w := w) (base := base) T).mono (by decide)) (m.rm.mono (by decide)) m.tk T.m__law_pick T.k__law_pick T.b__law_pick (va_cons (v_var 0) (va_cons (v_fz (v_lst (va_cons v_int (va_cons (v_neg v_int) va_nil)))) va_nil))))))))
theorem ok_level_cost (T : Tx K mg C_NotComparable C_MoreSpread f__law_feed f__law_take f__law_pick f__law_ages f__law_calmer f_level_cost f_level_against f_falling f_next_places f_transfers f__law_own_steps f_is_integer f_after_transfer f_is_transfers f__law_leads f__law_own_right f__law_changed f_law fX_MoreSpread fd__law_feed fd__law_take fd__law_pick fd__law_ages fd__law_calmer fd_level_cost fd_level_against fd_falling fd_next_places fd_transfers fd__law_own_steps fd_is_integer fd_after_transfer fd_is_transfers fd__law_leads fd__law_own_right fd__law_changed fd_law) : FnG P w K mg base 1 f_level_cost fd_level_cost ["ages", "level"] (spV (gx K C_NotComparable C_MoreSpread w) 2 [] den_level_cost) :=
  fn_v (k := 0) (G := gx K C_NotComparable C_MoreSpread w) (N := N_level_cost) (ps := ["ages", "level"]) T.F_level_cost sc_level_cost (by decide) [] fun cdv A outer s0 H E m =>
    (b_one (s_ret (v_sumA rfl T.z_sum (v_comp (own := [("age", 2)]) rfl sc_level_cost.nd (i_seq (v_var 0) rfl) (by show BlkOk N_level_cost (defScope s_level_cost) _ _; exact ⟨rfl, by decide +kernel, by decide +kernel, by decide +kernel, by decide +kernel⟩) (fun _ _ _ _ _ => (g_name 2 sc_level_cost.nd (by decide))) (fun _ _ _ _ _ => t_yes) (fun _ _ _ _ _ => (v_max2 rfl T.z_max v_int (v_sub (v_var 2) (v_var 1)))) (by decide) (by decide)))))
theorem ok_level_against (T : Tx K mg C_NotComparable C_MoreSpread f__law_feed f__law_take f__law_pick f__law_ages f__law_calmer f_level_cost f_level_against f_falling f_next_places f_transfers f__law_own_steps f_is_integer f_after_transfer f_is_transfers f__law_leads f__law_own_right f__law_changed f_law fX_MoreSpread fd__law_feed fd__law_take fd__law_pick fd__law_ages fd__law_calmer fd_level_cost fd_level_against fd_falling fd_next_places fd_transfers fd__law_own_steps fd_is_integer fd_after_transfer fd_is_transfers fd__law_leads fd__law_own_right fd__law_changed fd_law) : FnG P w K mg base 2 f_level_against fd_level_against ["first", "second"] (spV (gx K C_NotComparable C_MoreSpread w) 2 [] den_level_against) :=
  fn_v (k := 1) (G := gx K C_NotComparable C_MoreSpread w) (N := N_level_against) (ps := ["first", "second"]) T.F_level_against sc_level_against (by decide) [] fun cdv A outer s0 H E m =>
    (b_cons (s_for m.po rfl (i_seq (v_sortSet2 rfl rfl T.z_sorted T.z_set (v_add (v_list T.z_list (v_var 0)) (v_list T.z_list (v_var 1)))) rfl) (g_name 2 sc_level_against.nd (by decide))
    (b_one (s_if (t_gt (v_call (k := 1) ((ok_level_cost (P := P) (w := w) (base := base) T).mono (by decide)) (m.rm.mono (by decide)) m.tk T.m_level_cost T.k_level_cost T.b_level_cost (va_cons (v_var 0) (va_cons (v_var 2) va_nil))) (v_call (k := 1) ((ok_level_cost (P := P) (w := w) (base := base) T).mono (by decide)) (m.rm.mono (by decide)) m.tk T.m_level_cost T.k_level_cost T.b_level_cost (va_cons (v_var 1) (va_cons (v_var 2) va_nil))))
    (b_one (s_ret (v_mv (v_var 2))))
    b_nil)))
    (b_one (s_ret v_non)))
theorem ok_falling (T : Tx K mg C_NotComparable C_MoreSpread f__law_feed f__law_take f__law_pick f__law_ages f__law_calmer f_level_cost f_level_against f_falling f_next_places f_transfers f__law_own_steps f_is_integer f_after_transfer f_is_transfers f__law_leads f__law_own_right f__law_changed f_law fX_MoreSpread fd__law_feed fd__law_take fd__law_pick fd__law_ages fd__law_calmer fd_level_cost fd_level_against fd_falling fd_next_places fd_transfers fd__law_own_steps fd_is_integer fd_after_transfer fd_is_transfers fd__law_leads fd__law_own_right fd__law_changed fd_law) : FnG P w K mg base 1 f_falling fd_falling ["ages"] (spV (gx K C_NotComparable C_MoreSpread w) 1 [] den_falling) :=
  fn_v (k := 0) (G := gx K C_NotComparable C_MoreSpread w) (N := N_falling) (ps := ["ages"]) T.F_falling sc_falling (by decide) [] fun cdv A outer s0 H E m =>
    (b_one (s_ret (v_sortR2 T.z_sorted (v_var 0))))
theorem ok_next_places (T : Tx K mg C_NotComparable C_MoreSpread f__law_feed f__law_take f__law_pick f__law_ages f__law_calmer f_level_cost f_level_against f_falling f_next_places f_transfers f__law_own_steps f_is_integer f_after_transfer f_is_transfers f__law_leads f__law_own_right f__law_changed f_law fX_MoreSpread fd__law_feed fd__law_take fd__law_pick fd__law_ages fd__law_calmer fd_level_cost fd_level_against fd_falling fd_next_places fd_transfers fd__law_own_steps fd_is_integer fd_after_transfer fd_is_transfers fd__law_leads fd__law_own_right fd__law_changed fd_law) : FnG P w K mg base 1 f_next_places fd_next_places ["wanted", "found"] (spV (gx K C_NotComparable C_MoreSpread w) 2 [] den_next_places) :=
  fn_v (k := 0) (G := gx K C_NotComparable C_MoreSpread w) (N := N_next_places) (ps := ["wanted", "found"]) T.F_next_places sc_next_places (by decide) [] fun cdv A outer s0 H E m =>
    (b_cons (s_set (i := 2) sc_next_places.nd (by decide) (v_idx rfl (v_comp (own := [("k", 3)]) rfl sc_next_places.nd (i_r1 T.z_range (v_len rfl T.z_len (v_var 1))) (by show BlkOk N_next_places (defScope s_next_places) _ _; exact ⟨rfl, by decide +kernel, by decide +kernel, by decide +kernel, by decide +kernel⟩) (fun _ _ _ _ _ => (g_name 3 sc_next_places.nd (by decide))) (fun _ _ _ _ _ => (t_one (t_lt (v_idx rfl (v_var 1) (v_var 3)) (v_idx rfl (v_var 0) (v_var 3))))) (fun _ _ _ _ _ => (v_fz (v_var 3))) (by decide) (by decide)) v_int))
    (b_one (s_ret (v_tup (va_cons (v_max1 rfl T.z_max (v_comp (own := [("k", 3)]) rfl sc_next_places.nd (i_r1 T.z_range (v_var 2)) (by show BlkOk N_next_places (defScope s_next_places) _ _; exact ⟨rfl, by decide +kernel, by decide +kernel, by decide +kernel, by decide +kernel⟩) (fun _ _ _ _ _ => (g_name 3 sc_next_places.nd (by decide))) (fun _ _ _ _ _ => (t_one (t_gt (v_idx rfl (v_var 1) (v_var 3)) (v_idx rfl (v_var 0) (v_var 3))))) (fun _ _ _ _ _ => (v_fz (v_var 3))) (by decide) (by decide))) (va_cons (v_fz (v_var 2)) va_nil))))))
theorem ok_transfers (T : Tx K mg C_NotComparable C_MoreSpread f__law_feed f__law_take f__law_pick f__law_ages f__law_calmer f_level_cost f_level_against f_falling f_next_places f_transfers f__law_own_steps f_is_integer f_after_transfer f_is_transfers f__law_leads f__law_own_right f__law_changed f_law fX_MoreSpread fd__law_feed fd__law_take fd__law_pick fd__law_ages fd__law_calmer fd_level_cost fd_level_against fd_falling fd_next_places fd_transfers fd__law_own_steps fd_is_integer fd_after_transfer fd_is_transfers fd__law_leads fd__law_own_right fd__law_changed fd_law) : FnG P w K mg base 3 f_transfers fd_transfers ["first", "second"] (spV (gx K C_NotComparable C_MoreSpread w) 2 [] den_transfers) :=
  fn_v (k := 2) (G := gx K C_NotComparable C_MoreSpread w) (N := N_transfers) (ps := ["first", "second"]) T.F_transfers sc_transfers (by decide) [] fun cdv A outer s0 H E m =>
    (b_cons (s_if (PW.pt (t_or (t_ne m.rm.r (v_len rfl T.z_len (v_var 0)) (v_len rfl T.z_len (v_var 1))) (t_or1 (t_ne m.rm.r (v_sumA rfl T.z_sum (v_var 0)) (v_sumA rfl T.z_sum (v_var 1))))))
    (b_one (s_raise0 (c := 1) rfl PySem.F.excBase_ValueError T.xq_NotComparable T.xg_NotComparable T.xk_NotComparable (raises_own T.xe_NotComparable T.xy_NotComparable) m.tk rfl))
    b_nil)
    (b_cons (s_set (i := 2) sc_transfers.nd (by decide) (v_call (k := 2) ((ok_level_against (P := P) (w := w) (base := base) T).mono (by decide)) (m.rm.mono (by decide)) m.tk T.m_level_against T.k_level_against T.b_level_against (va_cons (v_var 0) (va_cons (v_var 1) va_nil))))
    (b_cons (s_if (t_notN (v_var 2) v_non)
    (b_one (s_raise_MoreSpread (c := 2) rfl T.x_MoreSpread m.rm.r m.tk rfl rfl (v_fz (v_var 2))))
    b_nil)
    (b_cons (s_par (i := 3) (j := 4) rfl sc_transfers.nd (by decide) (by decide) (va_cons (v_call (k := 1) ((ok_falling (P := P) (w := w) (base := base) T).mono (by decide)) (m.rm.mono (by decide)) m.tk T.m_falling T.k_falling T.b_falling (va_cons (v_var 0) va_nil)) (va_cons (v_call (k := 1) ((ok_falling (P := P) (w := w) (base := base) T).mono (by decide)) (m.rm.mono (by decide)) m.tk T.m_falling T.k_falling T.b_falling (va_cons (v_var 1) va_nil)) va_nil)))
    (b_cons (s_set (i := 5) sc_transfers.nd (by decide) (v_lst va_nil))
    (b_cons (s_while m.po (t_ne m.rm.r (v_var 4) (v_var 3))
    (b_cons (s_asg (v_call (k := 1) ((ok_next_places (P := P) (w := w) (base := base) T).mono (by decide)) (m.rm.mono (by decide)) m.tk T.m_next_places T.k_next_places T.b_next_places (va_cons (v_var 3) (va_cons (v_var 4) va_nil))) (g_tup rfl (gs_cons (g_name 6 sc_transfers.nd (by decide)) (gs_cons (g_name 7 sc_transfers.nd (by decide)) gs_nil)) (len_cons (len_cons len_nil))))
    (b_cons (s_set (i := 8) sc_transfers.nd (by decide) (v_min2 rfl T.z_min (v_sub (v_idx rfl (v_var 4) (v_var 6)) (v_idx rfl (v_var 3) (v_var 6))) (v_sub (v_idx rfl (v_var 3) (v_var 7)) (v_idx rfl (v_var 4) (v_var 7)))))
    (b_cons (s_expr (v_lm (i := 5) lm_app PySem.F.slot_list_append PySem.F.type_list_append mt_append rfl (by first | exact Or.inl rfl | exact Or.inr (Or.inl rfl) | exact Or.inr (Or.inr rfl)) (by decide) (by decide) (va_cons (v_tup (va_cons (v_idx rfl (v_var 4) (v_var 6)) (va_cons (v_idx rfl (v_var 4) (v_var 7)) (va_cons (v_fz (v_var 8)) va_nil)))) va_nil)))
    (b_cons (s_augSub (i := 4) ip_sub rfl (by first | exact Or.inl rfl | exact Or.inr (Or.inl rfl) | exact Or.inr (Or.inr rfl)) (by decide) (by decide) (v_var 6) (v_var 8))
    (b_one (s_augSub (i := 4) ip_add rfl (by first | exact Or.inl rfl | exact Or.inr (Or.inl rfl) | exact Or.inr (Or.inr rfl)) (by decide) (by decide) (v_var 7) (v_var 8))))))))
    (b_one (s_ret (v_mv (v_var 5))))))))))
theorem ok__law_own_steps (T : Tx K mg C_NotComparable C_MoreSpread f__law_feed f__law_take f__law_pick f__law_ages f__law_calmer f_level_cost f_level_against f_falling f_next_places f_transfers f__law_own_steps f_is_integer f_after_transfer f_is_transfers f__law_leads f__law_own_right f__law_changed f_law fX_MoreSpread fd__law_feed fd__law_take fd__law_pick fd__law_ages fd__law_calmer fd_level_cost fd_level_against fd_falling fd_next_places fd_transfers fd__law_own_steps fd_is_integer fd_after_transfer fd_is_transfers fd__law_leads fd__law_own_right fd__law_changed fd_law) : FnG P w K mg base 2 f__law_own_steps fd__law_own_steps ["feed", "some_ages"] (spV (gx K C_NotComparable C_MoreSpread w) 2 [0] den__law_own_steps) :=
  fn_v (k := 1) (G := gx K C_NotComparable C_MoreSpread w) (N := N__law_own_steps) (ps := ["feed", "some_ages"]) T.F__law_own_steps sc__law_own_steps (by decide) [0] fun cdv A outer s0 H E m =>
    (b_cons (s_par (i := 2) (j := 3) rfl sc__law_own_steps.nd (by decide) (by decide) (va_cons (v_list T.z_list (v_var 1)) (va_cons (v_lst va_nil) va_nil)))
    (b_cons (s_for m.po rfl (i_r1 T.z_range (v_ifx (t_gt (v_len rfl T.z_len (v_var 2)) v_int) (v_call (k := 1) ((ok__law_take (P := P) (w := w) (base := base) T).mono (by decide)) (m.rm.mono (by decide)) m.tk T.m__law_take T.k__law_take T.b__law_take (va_cons (v_var 0) (va_cons v_int va_nil))) v_int)) (g_name 4 sc__law_own_steps.nd (by decide))
    (b_cons (s_set (i := 2) sc__law_own_steps.nd (by decide) (v_sorted rfl T.z_sorted (v_var 2)))
    (b_cons (s_par (i := 5) (j := 6) rfl sc__law_own_steps.nd (by decide) (by decide) (va_cons (v_idx rfl (v_var 2) (v_call (k := 1) ((ok__law_take (P := P) (w := w) (base := base) T).mono (by decide)) (m.rm.mono (by decide)) m.tk T.m__law_take T.k__law_take T.b__law_take (va_cons (v_var 0) (va_cons (v_sub (v_len rfl T.z_len (v_var 2)) v_int) va_nil)))) (va_cons (v_idx rfl (v_var 2) (v_neg v_int)) va_nil)))
    (b_one (s_if (t_gt (v_sub (v_var 6) (v_var 5)) v_int)
    (b_cons (s_set (i := 7) sc__law_own_steps.nd (by decide) (v_add v_int (v_call (k := 1) ((ok__law_take (P := P) (w := w) (base := base) T).mono (by decide)) (m.rm.mono (by decide)) m.tk T.m__law_take T.k__law_take T.b__law_take (va_cons (v_var 0) (va_cons (v_div (v_sub (v_var 6) (v_var 5)) v_int) va_nil)))))
    (b_cons (s_expr (v_lm (i := 2) lm_rem PySem.F.slot_list_remove PySem.F.type_list_remove mt_remove rfl (by first | exact Or.inl rfl | exact Or.inr (Or.inl rfl) | exact Or.inr (Or.inr rfl)) (by decide) (by decide) (va_cons (v_fz (v_var 5)) va_nil)))
    (b_cons (s_expr (v_lm (i := 2) lm_rem PySem.F.slot_list_remove PySem.F.type_list_remove mt_remove rfl (by first | exact Or.inl rfl | exact Or.inr (Or.inl rfl) | exact Or.inr (Or.inr rfl)) (by decide) (by decide) (va_cons (v_fz (v_var 6)) va_nil)))
    (b_cons (s_set (i := 2) sc__law_own_steps.nd (by decide) (v_add (v_var 2) (v_lst (va_cons (v_sub (v_var 6) (v_var 7)) (va_cons (v_add (v_var 5) (v_var 7)) va_nil)))))
    (b_one (s_expr (v_lm (i := 3) lm_app PySem.F.slot_list_append PySem.F.type_list_append mt_append rfl (by first | exact Or.inl rfl | exact Or.inr (Or.inl rfl) | exact Or.inr (Or.inr rfl)) (by decide) (by decide) (va_cons (v_tup (va_cons (v_fz (v_var 6)) (va_cons (v_fz (v_var 5)) (va_cons (v_fz (v_var 7)) va_nil)))) va_nil))))))))
    b_nil)))))
    (b_one (s_ret (v_tup (va_cons (v_fz (v_var 2)) (va_cons (v_fz (v_var 3)) va_nil)))))))
theorem ok_is_integer (T : Tx K mg C_NotComparable C_MoreSpread f__law_feed f__law_take f__law_pick f__law_ages f__law_calmer f_level_cost f_level_against f_falling f_next_places f_transfers f__law_own_steps f_is_integer f_after_transfer f_is_transfers f__law_leads f__law_own_right f__law_changed f_law fX_MoreSpread fd__law_feed fd__law_take fd__law_pick fd__law_ages fd__law_calmer fd_level_cost fd_level_against fd_falling fd_next_places fd_transfers fd__law_own_steps fd_is_integer fd_after_transfer fd_is_transfers fd__law_leads fd__law_own_right fd__law_changed fd_law) : FnG P w K mg base 1 f_is_integer fd_is_integer ["value"] (spV (gx K C_NotComparable C_MoreSpread w) 1 [] den_is_integer) :=
  fn_v (k := 0) (G := gx K C_NotComparable C_MoreSpread w) (N := N_is_integer) (ps := ["value"]) T.F_is_integer sc_is_integer (by decide) [] fun cdv A outer s0 H E m =>
    (b_one (s_ret (v_and (v_isi (T := .int) (by decide) T.z_isinstance T.z_int (by decide +kernel) (v_var 0)) (v_bop1 (v_not (v_isi (T := .bl) (by decide) T.z_isinstance T.z_bool (by decide +kernel) (v_var 0)))))))
theorem ok_after_transfer (T : Tx K mg C_NotComparable C_MoreSpread f__law_feed f__law_take f__law_pick f__law_ages f__law_calmer f_level_cost f_level_against f_falling f_next_places f_transfers f__law_own_steps f_is_integer f_after_transfer f_is_transfers f__law_leads f__law_own_right f__law_changed f_law fX_MoreSpread fd__law_feed fd__law_take fd__law_pick fd__law_ages fd__law_calmer fd_level_cost fd_level_against fd_falling fd_next_places fd_transfers fd__law_own_steps fd_is_integer fd_after_transfer fd_is_transfers fd__law_leads fd__law_own_right fd__law_changed fd_law) : FnG P w K mg base 2 f_after_transfer fd_after_transfer ["ages", "step"] (spV (gx K C_NotComparable C_MoreSpread w) 2 [] den_after_transfer) :=
  fn_v (k := 1) (G := gx K C_NotComparable C_MoreSpread w) (N := N_after_transfer) (ps := ["ages", "step"]) T.F_after_transfer sc_after_transfer (by decide) [] fun cdv A outer s0 H E m =>
    (b_cons (s_if (PW.pt (t_or (t_not (t_val (v_isi (T := .tup) (by decide) T.z_isinstance T.z_tuple (by decide +kernel) (v_var 1)))) (t_or (t_ne m.rm.r (v_len rfl T.z_len (v_var 1)) v_int) (t_or1 (t_not (t_val (v_all rfl T.z_all (v_comp (own := [("one", 6)]) rfl sc_after_transfer.nd (i_seq (v_var 1) rfl) (by show BlkOk N_after_transfer (defScope s_after_transfer) _ _; exact ⟨rfl, by decide +kernel, by decide +kernel, by decide +kernel, by decide +kernel⟩) (fun _ _ _ _ _ => (g_name 6 sc_after_transfer.nd (by decide))) (fun _ _ _ _ _ => t_yes) (fun _ _ _ _ _ => (v_call (k := 1) ((ok_is_integer (P := P) (w := w) (base := base) T).mono (by decide)) (m.rm.mono (by decide)) takesW0 T.m_is_integer T.k_is_integer T.b_is_integer (va_cons (v_var 6) va_nil))) (by decide) (by decide)))))))))
    (b_one (s_ret v_non))
    b_nil)
    (b_cons (s_asg (v_fz (v_var 1)) (g_tup rfl (gs_cons (g_name 2 sc_after_transfer.nd (by decide)) (gs_cons (g_name 3 sc_after_transfer.nd (by decide)) (gs_cons (g_name 4 sc_after_transfer.nd (by decide)) gs_nil))) (len_cons (len_cons (len_cons len_nil)))))
    (b_cons (s_set (i := 5) sc_after_transfer.nd (by decide) (v_list T.z_list (v_var 0)))
    (b_cons (s_if (PW.pt (t_or (t_lt (v_var 4) v_int) (t_or (t_lt (v_sub (v_var 2) (v_var 4)) (v_add (v_var 3) (v_var 4))) (t_or1 (t_notInE m.rm.r (v_var 2) (v_var 5))))))
    (b_one (s_ret v_non))
    b_nil)
    (b_cons (s_expr (v_lm (i := 5) lm_rem PySem.F.slot_list_remove PySem.F.type_list_remove mt_remove rfl (by first | exact Or.inl rfl | exact Or.inr (Or.inl rfl) | exact Or.inr (Or.inr rfl)) (by decide) (by decide) (va_cons (v_fz (v_var 2)) va_nil)))
    (b_cons (s_if (t_notInE m.rm.r (v_var 3) (v_var 5))
    (b_one (s_ret v_non))
    b_nil)
    (b_cons (s_expr (v_lm (i := 5) lm_rem PySem.F.slot_list_remove PySem.F.type_list_remove mt_remove rfl (by first | exact Or.inl rfl | exact Or.inr (Or.inl rfl) | exact Or.inr (Or.inr rfl)) (by decide) (by decide) (va_cons (v_fz (v_var 3)) va_nil)))
    (b_one (s_ret (v_add (v_var 5) (v_lst (va_cons (v_sub (v_var 2) (v_var 4)) (va_cons (v_add (v_var 3) (v_var 4)) va_nil)))))))))))))
theorem ok_is_transfers (T : Tx K mg C_NotComparable C_MoreSpread f__law_feed f__law_take f__law_pick f__law_ages f__law_calmer f_level_cost f_level_against f_falling f_next_places f_transfers f__law_own_steps f_is_integer f_after_transfer f_is_transfers f__law_leads f__law_own_right f__law_changed f_law fX_MoreSpread fd__law_feed fd__law_take fd__law_pick fd__law_ages fd__law_calmer fd_level_cost fd_level_against fd_falling fd_next_places fd_transfers fd__law_own_steps fd_is_integer fd_after_transfer fd_is_transfers fd__law_leads fd__law_own_right fd__law_changed fd_law) : FnG P w K mg base 3 f_is_transfers fd_is_transfers ["first", "second", "value"] (spV (gx K C_NotComparable C_MoreSpread w) 3 [] den_is_transfers) :=
  fn_v (k := 2) (G := gx K C_NotComparable C_MoreSpread w) (N := N_is_transfers) (ps := ["first", "second", "value"]) T.F_is_transfers sc_is_transfers (by decide) [] fun cdv A outer s0 H E m =>
    (b_cons (s_if (t_not (t_val (v_isi (T := .lst) (by decide) T.z_isinstance T.z_list (by decide +kernel) (v_var 2))))
    (b_one (s_ret v_bl))
    b_nil)
    (b_cons (s_set (i := 3) sc_is_transfers.nd (by decide) (v_list T.z_list (v_var 1)))
    (b_cons (s_for m.po rfl (i_seq (v_var 2) rfl) (g_name 4 sc_is_transfers.nd (by decide))
    (b_cons (s_set (i := 3) sc_is_transfers.nd (by decide) (v_call (k := 2) ((ok_after_transfer (P := P) (w := w) (base := base) T).mono (by decide)) (m.rm.mono (by decide)) m.tk T.m_after_transfer T.k_after_transfer T.b_after_transfer (va_cons (v_var 3) (va_cons (v_var 4) va_nil))))
    (b_one (s_if (t_isN (v_var 3) v_non)
    (b_one (s_ret v_bl))
    b_nil))))
    (b_one (s_ret (v_eq m.rm.r (v_sorted rfl T.z_sorted (v_var 3)) (v_sorted rfl T.z_sorted (v_var 0))))))))
theorem ok__law_leads (T : Tx K mg C_NotComparable C_MoreSpread f__law_feed f__law_take f__law_pick f__law_ages f__law_calmer f_level_cost f_level_against f_falling f_next_places f_transfers f__law_own_steps f_is_integer f_after_transfer f_is_transfers f__law_leads f__law_own_right f__law_changed f_law fX_MoreSpread fd__law_feed fd__law_take fd__law_pick fd__law_ages fd__law_calmer fd_level_cost fd_level_against fd_falling fd_next_places fd_transfers fd__law_own_steps fd_is_integer fd_after_transfer fd_is_transfers fd__law_leads fd__law_own_right fd__law_changed fd_law) : FnG P w K mg base 1 f__law_leads fd__law_leads ["first", "second", "told_one"] (spV (gx K C_NotComparable C_MoreSpread w) 3 [] den__law_leads) :=
  fn_v (k := 0) (G := gx K C_NotComparable C_MoreSpread w) (N := N__law_leads) (ps := ["first", "second", "told_one"]) T.F__law_leads sc__law_leads (by decide) [] fun cdv A outer s0 H E m =>
    (b_cons (s_if (t_not (t_val (v_isi (T := .lst) (by decide) T.z_isinstance T.z_list (by decide +kernel) (v_var 2))))
    (b_one (s_ret v_bl))
    b_nil)
    (b_cons (s_set (i := 3) sc__law_leads.nd (by decide) (v_list T.z_list (v_var 1)))
    (b_cons (s_for m.po rfl (i_seq (v_fz (v_var 2)) rfl) (g_name 4 sc__law_leads.nd (by decide))
    (b_cons (s_if (PW.pt (t_or (t_not (t_val (v_isi (T := .tup) (by decide) T.z_isinstance T.z_tuple (by decide +kernel) (v_var 4)))) (t_or1 (t_ne m.rm.r (v_len rfl T.z_len (v_var 4)) v_int))))
    (b_one (s_ret v_bl))
    b_nil)
    (b_cons (s_if (t_ne m.rm.r (v_comp (own := [("one", 8)]) rfl sc__law_leads.nd (i_seq (v_fz (v_var 4)) rfl) (by show BlkOk N__law_leads (defScope s__law_leads) _ _; exact ⟨rfl, by decide +kernel, by decide +kernel, by decide +kernel, by decide +kernel⟩) (fun _ _ _ _ _ => (g_name 8 sc__law_leads.nd (by decide))) (fun _ _ _ _ _ => (t_one (PW.pt (t_or (t_not (t_val (v_isi (T := .int) (by decide) T.z_isinstance T.z_int (by decide +kernel) (v_var 8)))) (t_or1 (t_val (v_isi (T := .bl) (by decide) T.z_isinstance T.z_bool (by decide +kernel) (v_var 8)))))))) (fun _ _ _ _ _ => (v_fz (v_var 8))) (by decide) (by decide)) (v_lst va_nil))
    (b_one (s_ret v_bl))
    b_nil)
    (b_cons (s_asg (v_fz (v_var 4)) (g_tup rfl (gs_cons (g_name 5 sc__law_leads.nd (by decide)) (gs_cons (g_name 6 sc__law_leads.nd (by decide)) (gs_cons (g_name 7 sc__law_leads.nd (by decide)) gs_nil))) (len_cons (len_cons (len_cons len_nil)))))
    (b_cons (s_if (PW.pt (t_or (t_lt (v_var 7) v_int) (t_or (t_lt (v_sub (v_var 5) (v_var 7)) (v_add (v_var 6) (v_var 7))) (t_or (t_notInE m.rm.r (v_var 5) (v_var 3)) (t_or1 (t_notInE m.rm.r (v_var 6) (v_var 3)))))))
    (b_one (s_ret v_bl))
    b_nil)
    (b_cons (s_expr (v_lm (i := 3) lm_rem PySem.F.slot_list_remove PySem.F.type_list_remove mt_remove rfl (by first | exact Or.inl rfl | exact Or.inr (Or.inl rfl) | exact Or.inr (Or.inr rfl)) (by decide) (by decide) (va_cons (v_fz (v_var 5)) va_nil)))
    (b_cons (s_expr (v_lm (i := 3) lm_rem PySem.F.slot_list_remove PySem.F.type_list_remove mt_remove rfl (by first | exact Or.inl rfl | exact Or.inr (Or.inl rfl) | exact Or.inr (Or.inr rfl)) (by decide) (by decide) (va_cons (v_fz (v_var 6)) va_nil)))
    (b_one (s_set (i := 3) sc__law_leads.nd (by decide) (v_add (v_var 3) (v_lst (va_cons (v_sub (v_var 5) (v_var 7)) (va_cons (v_add (v_var 6) (v_var 7)) va_nil)))))))))))))
    (b_one (s_ret (v_eq m.rm.r (v_sorted rfl T.z_sorted (v_var 3)) (v_sorted rfl T.z_sorted (v_var 0))))))))
theorem ok__law_own_right (T : Tx K mg C_NotComparable C_MoreSpread f__law_feed f__law_take f__law_pick f__law_ages f__law_calmer f_level_cost f_level_against f_falling f_next_places f_transfers f__law_own_steps f_is_integer f_after_transfer f_is_transfers f__law_leads f__law_own_right f__law_changed f_law fX_MoreSpread fd__law_feed fd__law_take fd__law_pick fd__law_ages fd__law_calmer fd_level_cost fd_level_against fd_falling fd_next_places fd_transfers fd__law_own_steps fd_is_integer fd_after_transfer fd_is_transfers fd__law_leads fd__law_own_right fd__law_changed fd_law) : FnG P w K mg base 4 f__law_own_right fd__law_own_right ["feed", "some_ages"] (spV (gx K C_NotComparable C_MoreSpread w) 2 [0] den__law_own_right) :=
  fn_v (k := 3) (G := gx K C_NotComparable C_MoreSpread w) (N := N__law_own_right) (ps := ["feed", "some_ages"]) T.F__law_own_right sc__law_own_right (by decide) [0] fun cdv A outer s0 H E m =>
    (b_cons (s_asg (v_call (k := 2) ((ok__law_own_steps (P := P) (w := w) (base := base) T).mono (by decide)) (m.rm.mono (by decide)) m.tk T.m__law_own_steps T.k__law_own_steps T.b__law_own_steps (va_cons (v_var 0) (va_cons (v_var 1) va_nil))) (g_tup rfl (gs_cons (g_name 2 sc__law_own_right.nd (by decide)) (gs_cons (g_name 3 sc__law_own_right.nd (by decide)) gs_nil)) (len_cons (len_cons len_nil))))
    (b_cons (s_set (i := 4) sc__law_own_right.nd (by decide) (v_lst va_nil))
    (b_cons (s_for m.po rfl (i_seq (v_fz (v_var 3)) rfl) (g_tup rfl (gs_cons (g_name 5 sc__law_own_right.nd (by decide)) (gs_cons (g_name 6 sc__law_own_right.nd (by decide)) (gs_cons (g_name 7 sc__law_own_right.nd (by decide)) gs_nil))) (len_cons (len_cons (len_cons len_nil))))
    (b_one (s_set (i := 4) sc__law_own_right.nd (by decide) (v_add (v_var 4) (v_sl (v_lst (va_cons (v_tup (va_cons (v_fz (v_var 5)) (va_cons (v_fz (v_var 6)) (va_cons v_int va_nil)))) (va_cons (v_tup (va_cons (v_sub (v_var 5) v_int) (va_cons (v_add (v_var 6) v_int) (va_cons (v_sub (v_var 7) v_int) va_nil)))) va_nil))) vo_none (vo_some (v_add v_int (v_intB T.z_int (v_gt (v_var 7) v_int)))))))))
    (b_cons (s_set (i := 8) sc__law_own_right.nd (by decide) (v_lst (va_cons (v_fz (v_var 3)) (va_cons (v_fz (v_var 4)) (va_cons (v_add (v_var 3) (v_lst (va_cons (v_tup (va_cons (v_neg v_int) (va_cons (v_neg v_int) (va_cons v_int va_nil)))) va_nil))) va_nil)))))
    (b_cons (s_for m.po rfl (i_seq (v_sl (v_var 3) vo_none (vo_some v_int)) rfl) (g_tup rfl (gs_cons (g_name 5 sc__law_own_right.nd (by decide)) (gs_cons (g_name 6 sc__law_own_right.nd (by decide)) (gs_cons (g_name 7 sc__law_own_right.nd (by decide)) gs_nil))) (len_cons (len_cons (len_cons len_nil))))
    (b_cons (s_set (i := 9) sc__law_own_right.nd (by decide) (v_lst (va_cons (v_tup (va_cons (v_fz (v_var 5)) (va_cons v_non (va_cons v_int va_nil)))) (va_cons (v_tup (va_cons (v_fz (v_var 5)) (va_cons (v_strI T.z_str (v_var 6)) (va_cons v_int va_nil)))) (va_cons (v_tup (va_cons v_non (va_cons (v_fz (v_var 6)) (va_cons v_int va_nil)))) (va_cons (v_tup (va_cons (v_fz (v_var 5)) (va_cons (v_lst (va_cons (v_fz (v_var 6)) va_nil)) (va_cons v_int va_nil)))) (va_cons (v_tup va_nil) (va_cons (v_tup (va_cons (v_fz (v_var 6)) (va_cons (v_fz (v_var 5)) (va_cons (v_sub v_int (v_var 7)) va_nil)))) va_nil))))))))
    (b_cons (s_set (i := 8) sc__law_own_right.nd (by decide) (v_add (v_var 8) (v_comp (own := [("step", 13)]) rfl sc__law_own_right.nd (i_seq (v_fz (v_var 9)) rfl) (by show BlkOk N__law_own_right (defScope s__law_own_right) _ _; exact ⟨rfl, by decide +kernel, by decide +kernel, by decide +kernel, by decide +kernel⟩) (fun _ _ _ _ _ => (g_name 13 sc__law_own_right.nd (by decide))) (fun _ _ _ _ _ => t_yes) (fun _ _ _ _ _ => (v_add (v_lst (va_cons (v_fz (v_var 13)) va_nil)) (v_var 3))) (by decide) (by decide))))
    (b_cons (s_set (i := 8) sc__law_own_right.nd (by decide) (v_add (v_var 8) (v_lst (va_cons (v_add (v_var 3) (v_lst (va_cons (v_tup (va_cons (v_fz (v_var 6)) (va_cons (v_fz (v_var 5)) (va_cons (v_sub v_int (v_var 7)) va_nil)))) va_nil))) (va_cons (v_add (v_var 3) (v_lst (va_cons (v_tup (va_cons (v_fz (v_var 5)) (va_cons (v_fz (v_var 6)) (va_cons (v_fz (v_var 7)) (va_cons v_int va_nil))))) va_nil))) va_nil)))))
    (b_one (s_expr (v_lm (i := 8) lm_app PySem.F.slot_list_append PySem.F.type_list_append mt_append rfl (by first | exact Or.inl rfl | exact Or.inr (Or.inl rfl) | exact Or.inr (Or.inr rfl)) (by decide) (by decide) (va_cons (v_add (v_lst (va_cons (v_tup (va_cons (v_fz (v_var 5)) (va_cons (v_fz (v_var 6)) (va_cons (v_neg v_int) va_nil)))) (va_cons (v_tup (va_cons (v_add (v_var 5) v_int) (va_cons (v_sub (v_var 6) v_int) (va_cons v_int va_nil)))) va_nil))) (v_var 3)) va_nil))))))))
    (b_cons (s_for m.po rfl (i_seq (v_fz (v_var 8)) rfl) (g_name 10 sc__law_own_right.nd (by decide))
    (b_one (s_if (t_ne m.rm.r (v_repr3 m.rm T.z_repr (v_call (k := 3) ((ok_is_transfers (P := P) (w := w) (base := base) T).mono (by decide)) (m.rm.mono (by decide)) m.tk T.m_is_transfers T.k_is_transfers T.b_is_transfers (va_cons (v_var 2) (va_cons (v_var 1) (va_cons (v_var 10) va_nil))))) (v_repr3 m.rm T.z_repr (v_call (k := 1) ((ok__law_leads (P := P) (w := w) (base := base) T).mono (by decide)) (m.rm.mono (by decide)) m.tk T.m__law_leads T.k__law_leads T.b__law_leads (va_cons (v_var 2) (va_cons (v_var 1) (va_cons (v_fz (v_var 10)) va_nil))))))
    (b_one (s_ret v_bl))
    b_nil)))
    (b_cons (s_if (PW.pt (t_or (t_notB (v_call (k := 3) ((ok_is_transfers (P := P) (w := w) (base := base) T).mono (by decide)) (m.rm.mono (by decide)) m.tk T.m_is_transfers T.k_is_transfers T.b_is_transfers (va_cons (v_lst (va_cons v_int (va_cons v_int va_nil))) (va_cons (v_lst (va_cons v_int (va_cons v_int va_nil))) (va_cons (v_lst (va_cons (v_tup (va_cons v_int (va_cons v_int (va_cons (v_neg v_int) va_nil)))) va_nil)) va_nil)))) v_bl) (t_or1 (t_notB (v_call (k := 3) ((ok_is_transfers (P := P) (w := w) (base := base) T).mono (by decide)) (m.rm.mono (by decide)) m.tk T.m_is_transfers T.k_is_transfers T.b_is_transfers (va_cons (v_lst (va_cons v_int (va_cons v_int va_nil))) (va_cons (v_lst (va_cons v_int (va_cons v_int va_nil))) (va_cons (v_lst (va_cons (v_tup (va_cons v_int (va_cons v_int (va_cons v_int va_nil)))) va_nil)) va_nil)))) v_bl))))
    (b_one (s_ret v_bl))
    b_nil)
    (b_cons (s_set (i := 11) sc__law_own_right.nd (by decide) (v_lst va_nil))
    (b_cons (s_for m.po rfl (i_r1 T.z_range v_int) (g_name 12 sc__law_own_right.nd (by decide))
    (b_one (s_set (i := 11) sc__law_own_right.nd (by decide) (v_ifx (t_eq m.rm.r (v_mod (v_var 12) v_int) v_int) (v_lst (va_cons (v_fz (v_var 11)) va_nil)) (v_tup (va_cons (v_fz (v_var 11)) va_nil))))))
    (b_one (s_ret (v_and (v_isB (v_call (k := 3) ((ok_is_transfers (P := P) (w := w) (base := base) T).mono (by decide)) (m.rm.mono (by decide)) m.tk T.m_is_transfers T.k_is_transfers T.b_is_transfers (va_cons (v_lst (va_cons v_int va_nil)) (va_cons (v_lst (va_cons v_int va_nil)) (va_cons (v_lst (va_cons (v_fz (v_var 11)) va_nil)) va_nil)))) v_bl) (v_bop1 (v_isB (v_call (k := 3) ((ok_is_transfers (P := P) (w := w) (base := base) T).mono (by decide)) (m.rm.mono (by decide)) m.tk T.m_is_transfers T.k_is_transfers T.b_is_transfers (va_cons (v_lst (va_cons v_int va_nil)) (va_cons (v_lst (va_cons v_int va_nil)) (va_cons (v_lst (va_cons (v_tup (va_cons v_int (va_cons (v_fz (v_var 11)) (va_cons v_int va_nil)))) va_nil)) va_nil)))) v_bl))))))))))))))
theorem ok__law_changed (T : Tx K mg C_NotComparable C_MoreSpread f__law_feed f__law_take f__law_pick f__law_ages f__law_calmer f_level_cost f_level_against f_falling f_next_places f_transfers f__law_own_steps f_is_integer f_after_transfer f_is_transfers f__law_leads f__law_own_right f__law_changed f_law fX_MoreSpread fd__law_feed fd__law_take fd__law_pick fd__law_ages fd__law_calmer fd_level_cost fd_level_against fd_falling fd_next_places fd_transfers fd__law_own_steps fd_is_integer fd_after_transfer fd_is_transfers fd__law_leads fd__law_own_right fd__law_changed fd_law) : FnG P w K mg base 3 f__law_changed fd__law_changed ["feed", "told_one", "some_ages"] (spV (gx K C_NotComparable C_MoreSpread w) 3 [0] den__law_changed) :=
  fn_v (k := 2) (G := gx K C_NotComparable C_MoreSpread w) (N := N__law_changed) (ps := ["feed", "told_one", "some_ages"]) T.F__law_changed sc__law_changed (by decide) [0] fun cdv A outer s0 H E m =>
    (b_cons (s_set (i := 3) sc__law_changed.nd (by decide) (v_list T.z_list (v_var 1)))
    (b_cons (s_set (i := 4) sc__law_changed.nd (by decide) (v_call (k := 1) ((ok__law_take (P := P) (w := w) (base := base) T).mono (by decide)) (m.rm.mono (by decide)) m.tk T.m__law_take T.k__law_take T.b__law_take (va_cons (v_var 0) (va_cons (v_add (v_len rfl T.z_len (v_var 3)) v_int) va_nil))))
    (b_cons (s_par (i := 5) (j := 6) rfl sc__law_changed.nd (by decide) (by decide) (va_cons (v_min1 rfl T.z_min (v_add (v_var 2) (v_lst (va_cons v_int va_nil)))) (va_cons (v_max1 rfl T.z_max (v_add (v_var 2) (v_lst (va_cons v_int va_nil)))) va_nil)))
    (b_cons (s_set (i := 7) sc__law_changed.nd (by decide) (v_lst (va_cons (v_tup (va_cons (v_fz (v_var 6)) (va_cons (v_fz (v_var 5)) (va_cons v_int va_nil)))) (va_cons (v_tup (va_cons (v_fz (v_var 6)) (va_cons (v_fz (v_var 5)) (va_cons v_int va_nil)))) (va_cons (v_tup (va_cons (v_fz (v_var 6)) (va_cons (v_fz (v_var 5)) (va_cons (v_neg v_int) va_nil)))) (va_cons (v_tup (va_cons (v_fz (v_var 5)) (va_cons (v_fz (v_var 6)) (va_cons v_int va_nil)))) (va_cons (v_tup (va_cons (v_fz (v_var 6)) (va_cons (v_fz (v_var 6)) (va_cons v_int va_nil)))) (va_cons (v_tup (va_cons (v_add (v_var 6) v_int) (va_cons (v_fz (v_var 5)) (va_cons v_int va_nil)))) va_nil))))))))
    (b_cons (s_set (i := 7) sc__law_changed.nd (by decide) (v_add (v_var 7) (v_lst (va_cons (v_tup (va_cons (v_fz (v_var 6)) (va_cons (v_fz (v_var 5)) (va_cons (v_div (v_sub (v_var 6) (v_var 5)) v_int) va_nil)))) (va_cons (v_tup (va_cons (v_fz (v_var 6)) (va_cons (v_fz (v_var 5)) (va_cons v_bl va_nil)))) (va_cons (v_tup (va_cons (v_fz (v_var 6)) (va_cons v_bl (va_cons v_int va_nil)))) (va_cons (v_lst (va_cons (v_fz (v_var 6)) (va_cons (v_fz (v_var 5)) (va_cons v_int va_nil)))) (va_cons (v_tup (va_cons (v_fz (v_var 6)) (va_cons (v_fz (v_var 5)) va_nil))) (va_cons v_non va_nil)))))))))
    (b_cons (s_set (i := 7) sc__law_changed.nd (by decide) (v_add (v_var 7) (v_lst (va_cons (v_tup (va_cons (v_fz (v_var 6)) (va_cons (v_fz (v_var 5)) (va_cons v_str va_nil)))) (va_cons (v_tup (va_cons (v_lst (va_cons (v_fz (v_var 6)) va_nil)) (va_cons (v_fz (v_var 5)) (va_cons v_int va_nil)))) (va_cons v_dK0 (va_cons (v_tup (va_cons (v_fz (v_var 6)) (va_cons (v_fz (v_var 5)) (va_cons (v_add (v_div (v_sub (v_var 6) (v_var 5)) v_int) v_int) va_nil)))) (va_cons (v_tup (va_cons (v_fz (v_var 6)) (va_cons (v_fz (v_var 5)) (va_cons (v_sub (v_var 6) (v_var 5)) va_nil)))) va_nil))))))))
    (b_cons (s_set (i := 8) sc__law_changed.nd (by decide) (v_call (k := 1) ((ok__law_take (P := P) (w := w) (base := base) T).mono (by decide)) (m.rm.mono (by decide)) m.tk T.m__law_take T.k__law_take T.b__law_take (va_cons (v_var 0) (va_cons v_int va_nil))))
    (b_cons (s_if (t_eq m.rm.r (v_var 8) v_int)
    (b_one (s_ret (v_add (v_sl (v_var 3) vo_none (vo_some (v_var 4))) (v_sl (v_var 3) (vo_some (v_add (v_var 4) v_int)) vo_none))))
    b_nil)
    (b_cons (s_if (t_eq m.rm.r (v_var 8) v_int)
    (b_one (s_ret (v_add (v_add (v_sl (v_var 3) vo_none (vo_some (v_var 4))) (v_lst (va_cons (v_call (k := 2) ((ok__law_pick (P := P) (w := w) (base := base) T).mono (by decide)) (m.rm.mono (by decide)) m.tk T.m__law_pick T.k__law_pick T.b__law_pick (va_cons (v_var 0) (va_cons (v_fz (v_var 7)) va_nil))) va_nil))) (v_sl (v_var 3) (vo_some (v_var 4)) vo_none))))
    b_nil)
    (b_cons (s_if (t_eq m.rm.r (v_var 8) v_int)
    (b_one (s_ret (v_add (v_add (v_sl (v_var 3) vo_none (vo_some (v_var 4))) (v_lst (va_cons (v_call (k := 2) ((ok__law_pick (P := P) (w := w) (base := base) T).mono (by decide)) (m.rm.mono (by decide)) m.tk T.m__law_pick T.k__law_pick T.b__law_pick (va_cons (v_var 0) (va_cons (v_fz (v_var 7)) va_nil))) va_nil))) (v_sl (v_var 3) (vo_some (v_add (v_var 4) v_int)) vo_none))))
    b_nil)
    (b_cons (s_if (t_eq m.rm.r (v_var 8) v_int)
    (b_one (s_ret (v_rev (v_var 3))))
    b_nil)
    (b_cons (s_if (t_eq m.rm.r (v_var 8) v_int)
    (b_one (s_ret (v_call (k := 2) ((ok__law_pick (P := P) (w := w) (base := base) T).mono (by decide)) (m.rm.mono (by decide)) m.tk T.m__law_pick T.k__law_pick T.b__law_pick (va_cons (v_var 0) (va_cons (v_fz (v_lst (va_cons (v_tuple T.z_tuple (v_var 3)) (va_cons v_non (va_cons v_dK0 (va_cons v_str (va_cons v_int (va_cons (v_lst (va_cons (v_fz (v_var 3)) va_nil)) va_nil)))))))) va_nil)))))
    b_nil)
    (b_cons (s_if (t_eq m.rm.r (v_var 8) v_int)
    (b_one (s_ret (v_add (v_add (v_sl (v_var 3) vo_none (vo_some (v_var 4))) (v_comp (own := [("step", 9)]) rfl sc__law_changed.nd (i_seq (v_sl (v_var 3) (vo_some (v_var 4)) (vo_some (v_add (v_var 4) v_int))) rfl) (by show BlkOk N__law_changed (defScope s__law_changed) _ _; exact ⟨rfl, by decide +kernel, by decide +kernel, by decide +kernel, by decide +kernel⟩) (fun _ _ _ _ _ => (g_name 9 sc__law_changed.nd (by decide))) (fun _ _ _ _ _ => t_yes) (fun _ _ _ _ _ => (v_tup (va_cons (v_idx rfl (v_var 9) v_int) (va_cons (v_idx rfl (v_var 9) v_int) (va_cons (v_add (v_idx rfl (v_var 9) v_int) v_int) va_nil))))) (by decide) (by decide))) (v_sl (v_var 3) (vo_some (v_add (v_var 4) v_int)) vo_none))))
    b_nil)
    (b_one (s_ret (v_add (v_var 3) (v_var 3)))))))))))))))))
theorem ok_law (T : Tx K mg C_NotComparable C_MoreSpread f__law_feed f__law_take f__law_pick f__law_ages f__law_calmer f_level_cost f_level_against f_falling f_next_places f_transfers f__law_own_steps f_is_integer f_after_transfer f_is_transfers f__law_leads f__law_own_right f__law_changed f_law fX_MoreSpread fd__law_feed fd__law_take fd__law_pick fd__law_ages fd__law_calmer fd_level_cost fd_level_against fd_falling fd_next_places fd_transfers fd__law_own_steps fd_is_integer fd_after_transfer fd_is_transfers fd__law_leads fd__law_own_right fd__law_changed fd_law) : FnG P w K mg base 5 f_law fd_law ["script"] (spV (gx K C_NotComparable C_MoreSpread w) 1 [] den_law) :=
  fn_v (k := 4) (G := gx K C_NotComparable C_MoreSpread w) (N := N_law) (ps := ["script"]) T.F_law sc_law (by decide) [] fun cdv A outer s0 H E m =>
    (b_cons (s_for m.po rfl (i_r1 T.z_range (v_max2 rfl T.z_max v_int (v_min2 rfl T.z_min v_int (v_len rfl T.z_len (v_var 0))))) (g_name 1 sc_law.nd (by decide))
    (b_cons (s_set (i := 2) sc_law.nd (by decide) (v_call (k := 1) ((ok__law_feed (P := P) (w := w) (base := base) T).mono (by decide)) (m.rm.mono (by decide)) m.tk T.m__law_feed T.k__law_feed T.b__law_feed (va_cons (v_var 0) (va_cons (v_var 1) va_nil))))
    (b_cons (s_set (i := 3) sc_law.nd (by decide) (v_call (k := 3) ((ok__law_ages (P := P) (w := w) (base := base) T).mono (by decide)) (m.rm.mono (by decide)) m.tk T.m__law_ages T.k__law_ages T.b__law_ages (va_cons (v_var 2) (va_cons (v_call (k := 1) ((ok__law_take (P := P) (w := w) (base := base) T).mono (by decide)) (m.rm.mono (by decide)) m.tk T.m__law_take T.k__law_take T.b__law_take (va_cons (v_var 2) (va_cons v_int va_nil))) va_nil))))
    (b_cons (s_set (i := 4) sc_law.nd (by decide) (v_call (k := 3) ((ok__law_calmer (P := P) (w := w) (base := base) T).mono (by decide)) (m.rm.mono (by decide)) m.tk T.m__law_calmer T.k__law_calmer T.b__law_calmer (va_cons (v_var 2) (va_cons (v_var 3) va_nil))))
    (b_cons (s_set (i := 5) sc_law.nd (by decide) (v_call (k := 3) ((ok_transfers (P := P) (w := w) (base := base) T).mono (by decide)) (m.rm.mono (by decide)) m.tk T.m_transfers T.k_transfers T.b_transfers (va_cons (v_var 4) (va_cons (v_var 3) va_nil))))
    (b_cons (s_if (t_not (t_val (v_call (k := 4) ((ok__law_own_right (P := P) (w := w) (base := base) T).mono (by decide)) (m.rm.mono (by decide)) m.tk T.m__law_own_right T.k__law_own_right T.b__law_own_right (va_cons (v_var 2) (va_cons (v_var 3) va_nil)))))
    (b_one (s_ret v_bl))
    b_nil)
    (b_cons (s_set (i := 6) sc_law.nd (by decide) (v_call (k := 3) ((ok_transfers (P := P) (w := w) (base := base) T).mono (by decide)) (m.rm.mono (by decide)) m.tk T.m_transfers T.k_transfers T.b_transfers (va_cons (v_var 4) (va_cons (v_var 3) va_nil))))
    (b_cons (s_if (t_notB (v_call (k := 3) ((ok_is_transfers (P := P) (w := w) (base := base) T).mono (by decide)) (m.rm.mono (by decide)) m.tk T.m_is_transfers T.k_is_transfers T.b_is_transfers (va_cons (v_var 4) (va_cons (v_var 3) (va_cons (v_var 6) va_nil)))) v_bl)
    (b_one (s_ret v_bl))
    b_nil)
    (b_cons (s_for m.po rfl (i_seq (v_tup (va_cons (v_tup (va_cons v_int (va_cons (v_pow v_int v_int) (va_cons v_int va_nil)))) (va_cons v_non va_nil))) rfl) (g_name 7 sc_law.nd (by decide))
    (b_cons (s_expr (v_lm (i := 6) lm_app PySem.F.slot_list_append PySem.F.type_list_append mt_append rfl (by first | exact Or.inl rfl | exact Or.inr (Or.inl rfl) | exact Or.inr (Or.inr rfl)) (by decide) (by decide) (va_cons (v_fz (v_var 7)) va_nil)))
    (b_one (s_if (t_notB (v_call (k := 3) ((ok_is_transfers (P := P) (w := w) (base := base) T).mono (by decide)) (m.rm.mono (by decide)) m.tk T.m_is_transfers T.k_is_transfers T.b_is_transfers (va_cons (v_var 4) (va_cons (v_var 3) (va_cons (v_var 6) va_nil)))) v_bl)
    (b_one (s_ret v_bl))
    b_nil))))
    (b_one (s_for m.po rfl (i_r1 T.z_range v_int) (g_name 8 sc_law.nd (by decide))
    (b_cons (s_set (i := 9) sc_law.nd (by decide) (v_fz (v_ifx (t_gt (v_var 8) v_int) (v_call (k := 3) ((ok__law_changed (P := P) (w := w) (base := base) T).mono (by decide)) (m.rm.mono (by decide)) m.tk T.m__law_changed T.k__law_changed T.b__law_changed (va_cons (v_var 2) (va_cons (v_var 5) (va_cons (v_var 3) va_nil)))) (v_var 5))))
    (b_cons (s_set (i := 10) sc_law.nd (by decide) (v_call (k := 2) ((ok__law_pick (P := P) (w := w) (base := base) T).mono (by decide)) (m.rm.mono (by decide)) m.tk T.m__law_pick T.k__law_pick T.b__law_pick (va_cons (v_var 2) (va_cons (v_fz (v_lst (va_cons (v_fz (v_var 4)) (va_cons (v_fz (v_var 4)) (va_cons (v_fz (v_var 3)) va_nil))))) va_nil))))
    (b_cons (s_par (i := 11) (j := 12) rfl sc_law.nd (by decide) (by decide) (va_cons (v_repr3 m.rm T.z_repr (v_lst (va_cons (v_fz (v_var 9)) (va_cons (v_fz (v_var 10)) (va_cons (v_fz (v_var 3)) va_nil))))) (va_cons (v_call (k := 3) ((ok_is_transfers (P := P) (w := w) (base := base) T).mono (by decide)) (m.rm.mono (by decide)) m.tk T.m_is_transfers T.k_is_transfers T.b_is_transfers (va_cons (v_var 10) (va_cons (v_var 3) (va_cons (v_var 9) va_nil)))) va_nil)))
    (b_one (s_if (PW.pt (t_or (t_ne m.rm.r (v_repr3 m.rm T.z_repr (v_var 12)) (v_repr3 m.rm T.z_repr (v_call (k := 1) ((ok__law_leads (P := P) (w := w) (base := base) T).mono (by decide)) (m.rm.mono (by decide)) m.tk T.m__law_leads T.k__law_leads T.b__law_leads (va_cons (v_var 10) (va_cons (v_var 3) (va_cons (v_fz (v_var 9)) va_nil)))))) (t_or1 (t_ne m.rm.r (v_repr3 m.rm T.z_repr (v_lst (va_cons (v_fz (v_var 9)) (va_cons (v_fz (v_var 10)) (va_cons (v_fz (v_var 3)) va_nil))))) (v_var 11)))))
    (b_one (s_ret v_bl))
    b_nil))))))))))))))))
    (b_one (s_ret v_bl)))
end
section
variable {K : PySem.W.Frag} {mg : Str → Option Value} {h : Heap} {fa : Addr} {C_NotComparable C_MoreSpread : Addr} {f__law_feed f__law_take f__law_pick f__law_ages f__law_calmer f_level_cost f_level_against f_falling f_next_places f_transfers f__law_own_steps f_is_integer f_after_transfer f_is_transfers f__law_leads f__law_own_right f__law_changed f_law : Addr} {fX_MoreSpread : Addr}
  {oc__law_feed dc__law_feed pm__law_feed cd__law_feed ct__law_feed kV__law_feed : Value} {od__law_feed an__law_feed : Option Addr} {sl__law_feed : Array (Option Value)}
  {oc__law_take dc__law_take pm__law_take cd__law_take ct__law_take kV__law_take : Value} {od__law_take an__law_take : Option Addr} {sl__law_take : Array (Option Value)}
  {oc__law_pick dc__law_pick pm__law_pick cd__law_pick ct__law_pick kV__law_pick : Value} {od__law_pick an__law_pick : Option Addr} {sl__law_pick : Array (Option Value)}
  {oc__law_ages dc__law_ages pm__law_ages cd__law_ages ct__law_ages kV__law_ages : Value} {od__law_ages an__law_ages : Option Addr} {sl__law_ages : Array (Option Value)}
  {oc__law_calmer dc__law_calmer pm__law_calmer cd__law_calmer ct__law_calmer kV__law_calmer : Value} {od__law_calmer an__law_calmer : Option Addr} {sl__law_calmer : Array (Option Value)}
  {oc_level_cost dc_level_cost pm_level_cost cd_level_cost ct_level_cost kV_level_cost : Value} {od_level_cost an_level_cost : Option Addr} {sl_level_cost : Array (Option Value)}
  {oc_level_against dc_level_against pm_level_against cd_level_against ct_level_against kV_level_against : Value} {od_level_against an_level_against : Option Addr} {sl_level_against : Array (Option Value)}
  {oc_falling dc_falling pm_falling cd_falling ct_falling kV_falling : Value} {od_falling an_falling : Option Addr} {sl_falling : Array (Option Value)}
  {oc_next_places dc_next_places pm_next_places cd_next_places ct_next_places kV_next_places : Value} {od_next_places an_next_places : Option Addr} {sl_next_places : Array (Option Value)}
  {oc_transfers dc_transfers pm_transfers cd_transfers ct_transfers kV_transfers : Value} {od_transfers an_transfers : Option Addr} {sl_transfers : Array (Option Value)}
  {oc__law_own_steps dc__law_own_steps pm__law_own_steps cd__law_own_steps ct__law_own_steps kV__law_own_steps : Value} {od__law_own_steps an__law_own_steps : Option Addr} {sl__law_own_steps : Array (Option Value)}
  {oc_is_integer dc_is_integer pm_is_integer cd_is_integer ct_is_integer kV_is_integer : Value} {od_is_integer an_is_integer : Option Addr} {sl_is_integer : Array (Option Value)}
  {oc_after_transfer dc_after_transfer pm_after_transfer cd_after_transfer ct_after_transfer kV_after_transfer : Value} {od_after_transfer an_after_transfer : Option Addr} {sl_after_transfer : Array (Option Value)}
  {oc_is_transfers dc_is_transfers pm_is_transfers cd_is_transfers ct_is_transfers kV_is_transfers : Value} {od_is_transfers an_is_transfers : Option Addr} {sl_is_transfers : Array (Option Value)}
  {oc__law_leads dc__law_leads pm__law_leads cd__law_leads ct__law_leads kV__law_leads : Value} {od__law_leads an__law_leads : Option Addr} {sl__law_leads : Array (Option Value)}
  {oc__law_own_right dc__law_own_right pm__law_own_right cd__law_own_right ct__law_own_right kV__law_own_right : Value} {od__law_own_right an__law_own_right : Option Addr} {sl__law_own_right : Array (Option Value)}
  {oc__law_changed dc__law_changed pm__law_changed cd__law_changed ct__law_changed kV__law_changed : Value} {od__law_changed an__law_changed : Option Addr} {sl__law_changed : Array (Option Value)}
  {oc_law dc_law pm_law cd_law ct_law kV_law : Value} {od_law an_law : Option Addr} {sl_law : Array (Option Value)}
  {C_StoreError : Addr}
  {xnm_MoreSpread xqn_MoreSpread : Str} {xN_MoreSpread fX0_MoreSpread : Addr} {xbs_MoreSpread xsub_MoreSpread : List Value} {xsn_MoreSpread : List Str} {xab_MoreSpread : Bool} {xcol_MoreSpread : Option Bool} {xdd_MoreSpread xod_MoreSpread xan_MoreSpread : Option Addr} {xm0_MoreSpread xm1_MoreSpread xm2_MoreSpread xm3_MoreSpread xm5_MoreSpread : Option Value} {xoc_MoreSpread xdc_MoreSpread xpm_MoreSpread xcd_MoreSpread xct_MoreSpread : Value} {xsl_MoreSpread : Array (Option Value)}
theorem all_mk {P : Program} {w : World} (X : K.In h) (Gn : h.Ns mainGlobals mg) (hfa : mg "law" = some (.ref fa))
    (a__law_feed : PySem.W.nsIn K mainGlobals "_law_feed" = some (some (.ref f__law_feed)))
    (l__law_feed : K.lookup f__law_feed = some ⟨oc__law_feed, od__law_feed, .func (PySem.W.fnOf "_law_feed" "_law_feed" (defArgs s__law_feed) (defBody s__law_feed) (defScope s__law_feed) .none kV__law_feed dc__law_feed pm__law_feed an__law_feed cd__law_feed ct__law_feed), sl__law_feed⟩)
    (c__law_feed : PySem.W.codeIn K cd__law_feed "_law_feed" = true)
    (k__law_feed : PySem.W.keepIn K (.ref f__law_feed) = true)
    (a__law_take : PySem.W.nsIn K mainGlobals "_law_take" = some (some (.ref f__law_take)))
    (l__law_take : K.lookup f__law_take = some ⟨oc__law_take, od__law_take, .func (PySem.W.fnOf "_law_take" "_law_take" (defArgs s__law_take) (defBody s__law_take) (defScope s__law_take) .none kV__law_take dc__law_take pm__law_take an__law_take cd__law_take ct__law_take), sl__law_take⟩)
    (c__law_take : PySem.W.codeIn K cd__law_take "_law_take" = true)
    (k__law_take : PySem.W.keepIn K (.ref f__law_take) = true)
    (a__law_pick : PySem.W.nsIn K mainGlobals "_law_pick" = some (some (.ref f__law_pick)))
    (l__law_pick : K.lookup f__law_pick = some ⟨oc__law_pick, od__law_pick, .func (PySem.W.fnOf "_law_pick" "_law_pick" (defArgs s__law_pick) (defBody s__law_pick) (defScope s__law_pick) .none kV__law_pick dc__law_pick pm__law_pick an__law_pick cd__law_pick ct__law_pick), sl__law_pick⟩)
    (c__law_pick : PySem.W.codeIn K cd__law_pick "_law_pick" = true)
    (k__law_pick : PySem.W.keepIn K (.ref f__law_pick) = true)
    (a__law_ages : PySem.W.nsIn K mainGlobals "_law_ages" = some (some (.ref f__law_ages)))
    (l__law_ages : K.lookup f__law_ages = some ⟨oc__law_ages, od__law_ages, .func (PySem.W.fnOf "_law_ages" "_law_ages" (defArgs s__law_ages) (defBody s__law_ages) (defScope s__law_ages) .none kV__law_ages dc__law_ages pm__law_ages an__law_ages cd__law_ages ct__law_ages), sl__law_ages⟩)
    (c__law_ages : PySem.W.codeIn K cd__law_ages "_law_ages" = true)
    (k__law_ages : PySem.W.keepIn K (.ref f__law_ages) = true)
    (a__law_calmer : PySem.W.nsIn K mainGlobals "_law_calmer" = some (some (.ref f__law_calmer)))
    (l__law_calmer : K.lookup f__law_calmer = some ⟨oc__law_calmer, od__law_calmer, .func (PySem.W.fnOf "_law_calmer" "_law_calmer" (defArgs s__law_calmer) (defBody s__law_calmer) (defScope s__law_calmer) .none kV__law_calmer dc__law_calmer pm__law_calmer an__law_calmer cd__law_calmer ct__law_calmer), sl__law_calmer⟩)
    (c__law_calmer : PySem.W.codeIn K cd__law_calmer "_law_calmer" = true)
    (k__law_calmer : PySem.W.keepIn K (.ref f__law_calmer) = true)
    (a_level_cost : PySem.W.nsIn K mainGlobals "level_cost" = some (some (.ref f_level_cost)))
    (l_level_cost : K.lookup f_level_cost = some ⟨oc_level_cost, od_level_cost, .func (PySem.W.fnOf "level_cost" "level_cost" (defArgs s_level_cost) (defBody s_level_cost) (defScope s_level_cost) .none kV_level_cost dc_level_cost pm_level_cost an_level_cost cd_level_cost ct_level_cost), sl_level_cost⟩)
    (c_level_cost : PySem.W.codeIn K cd_level_cost "level_cost" = true)
    (k_level_cost : PySem.W.keepIn K (.ref f_level_cost) = true)
    (a_level_against : PySem.W.nsIn K mainGlobals "level_against" = some (some (.ref f_level_against)))
    (l_level_against : K.lookup f_level_against = some ⟨oc_level_against, od_level_against, .func (PySem.W.fnOf "level_against" "level_against" (defArgs s_level_against) (defBody s_level_against) (defScope s_level_against) .none kV_level_against dc_level_against pm_level_against an_level_against cd_level_against ct_level_against), sl_level_against⟩)
    (c_level_against : PySem.W.codeIn K cd_level_against "level_against" = true)
    (k_level_against : PySem.W.keepIn K (.ref f_level_against) = true)
    (a_falling : PySem.W.nsIn K mainGlobals "falling" = some (some (.ref f_falling)))
    (l_falling : K.lookup f_falling = some ⟨oc_falling, od_falling, .func (PySem.W.fnOf "falling" "falling" (defArgs s_falling) (defBody s_falling) (defScope s_falling) .none kV_falling dc_falling pm_falling an_falling cd_falling ct_falling), sl_falling⟩)
    (c_falling : PySem.W.codeIn K cd_falling "falling" = true)
    (k_falling : PySem.W.keepIn K (.ref f_falling) = true)
    (a_next_places : PySem.W.nsIn K mainGlobals "next_places" = some (some (.ref f_next_places)))
    (l_next_places : K.lookup f_next_places = some ⟨oc_next_places, od_next_places, .func (PySem.W.fnOf "next_places" "next_places" (defArgs s_next_places) (defBody s_next_places) (defScope s_next_places) .none kV_next_places dc_next_places pm_next_places an_next_places cd_next_places ct_next_places), sl_next_places⟩)
    (c_next_places : PySem.W.codeIn K cd_next_places "next_places" = true)
    (k_next_places : PySem.W.keepIn K (.ref f_next_places) = true)
    (a_transfers : PySem.W.nsIn K mainGlobals "transfers" = some (some (.ref f_transfers)))
    (l_transfers : K.lookup f_transfers = some ⟨oc_transfers, od_transfers, .func (PySem.W.fnOf "transfers" "transfers" (defArgs s_transfers) (defBody s_transfers) (defScope s_transfers) .none kV_transfers dc_transfers pm_transfers an_transfers cd_transfers ct_transfers), sl_transfers⟩)
    (c_transfers : PySem.W.codeIn K cd_transfers "transfers" = true)
    (k_transfers : PySem.W.keepIn K (.ref f_transfers) = true)
    (a__law_own_steps : PySem.W.nsIn K mainGlobals "_law_own_steps" = some (some (.ref f__law_own_steps)))
    (l__law_own_steps : K.lookup f__law_own_steps = some ⟨oc__law_own_steps, od__law_own_steps, .func (PySem.W.fnOf "_law_own_steps" "_law_own_steps" (defArgs s__law_own_steps) (defBody s__law_own_steps) (defScope s__law_own_steps) .none kV__law_own_steps dc__law_own_steps pm__law_own_steps an__law_own_steps cd__law_own_steps ct__law_own_steps), sl__law_own_steps⟩)
    (c__law_own_steps : PySem.W.codeIn K cd__law_own_steps "_law_own_steps" = true)
    (k__law_own_steps : PySem.W.keepIn K (.ref f__law_own_steps) = true)
    (a_is_integer : PySem.W.nsIn K mainGlobals "is_integer" = some (some (.ref f_is_integer)))
    (l_is_integer : K.lookup f_is_integer = some ⟨oc_is_integer, od_is_integer, .func (PySem.W.fnOf "is_integer" "is_integer" (defArgs s_is_integer) (defBody s_is_integer) (defScope s_is_integer) .none kV_is_integer dc_is_integer pm_is_integer an_is_integer cd_is_integer ct_is_integer), sl_is_integer⟩)
    (c_is_integer : PySem.W.codeIn K cd_is_integer "is_integer" = true)
    (k_is_integer : PySem.W.keepIn K (.ref f_is_integer) = true)
    (a_after_transfer : PySem.W.nsIn K mainGlobals "after_transfer" = some (some (.ref f_after_transfer)))
    (l_after_transfer : K.lookup f_after_transfer = some ⟨oc_after_transfer, od_after_transfer, .func (PySem.W.fnOf "after_transfer" "after_transfer" (defArgs s_after_transfer) (defBody s_after_transfer) (defScope s_after_transfer) .none kV_after_transfer dc_after_transfer pm_after_transfer an_after_transfer cd_after_transfer ct_after_transfer), sl_after_transfer⟩)
    (c_after_transfer : PySem.W.codeIn K cd_after_transfer "after_transfer" = true)
    (k_after_transfer : PySem.W.keepIn K (.ref f_after_transfer) = true)
    (a_is_transfers : PySem.W.nsIn K mainGlobals "is_transfers" = some (some (.ref f_is_transfers)))
    (l_is_transfers : K.lookup f_is_transfers = some ⟨oc_is_transfers, od_is_transfers, .func (PySem.W.fnOf "is_transfers" "is_transfers" (defArgs s_is_transfers) (defBody s_is_transfers) (defScope s_is_transfers) .none kV_is_transfers dc_is_transfers pm_is_transfers an_is_transfers cd_is_transfers ct_is_transfers), sl_is_transfers⟩)
    (c_is_transfers : PySem.W.codeIn K cd_is_transfers "is_transfers" = true)
    (k_is_transfers : PySem.W.keepIn K (.ref f_is_transfers) = true)
    (a__law_leads : PySem.W.nsIn K mainGlobals "_law_leads" = some (some (.ref f__law_leads)))
    (l__law_leads : K.lookup f__law_leads = some ⟨oc__law_leads, od__law_leads, .func (PySem.W.fnOf "_law_leads" "_law_leads" (defArgs s__law_leads) (defBody s__law_leads) (defScope s__law_leads) .none kV__law_leads dc__law_leads pm__law_leads an__law_leads cd__law_leads ct__law_leads), sl__law_leads⟩)
    (c__law_leads : PySem.W.codeIn K cd__law_leads "_law_leads" = true)
    (k__law_leads : PySem.W.keepIn K (.ref f__law_leads) = true)
    (a__law_own_right : PySem.W.nsIn K mainGlobals "_law_own_right" = some (some (.ref f__law_own_right)))
    (l__law_own_right : K.lookup f__law_own_right = some ⟨oc__law_own_right, od__law_own_right, .func (PySem.W.fnOf "_law_own_right" "_law_own_right" (defArgs s__law_own_right) (defBody s__law_own_right) (defScope s__law_own_right) .none kV__law_own_right dc__law_own_right pm__law_own_right an__law_own_right cd__law_own_right ct__law_own_right), sl__law_own_right⟩)
    (c__law_own_right : PySem.W.codeIn K cd__law_own_right "_law_own_right" = true)
    (k__law_own_right : PySem.W.keepIn K (.ref f__law_own_right) = true)
    (a__law_changed : PySem.W.nsIn K mainGlobals "_law_changed" = some (some (.ref f__law_changed)))
    (l__law_changed : K.lookup f__law_changed = some ⟨oc__law_changed, od__law_changed, .func (PySem.W.fnOf "_law_changed" "_law_changed" (defArgs s__law_changed) (defBody s__law_changed) (defScope s__law_changed) .none kV__law_changed dc__law_changed pm__law_changed an__law_changed cd__law_changed ct__law_changed), sl__law_changed⟩)
    (c__law_changed : PySem.W.codeIn K cd__law_changed "_law_changed" = true)
    (k__law_changed : PySem.W.keepIn K (.ref f__law_changed) = true)
    (a_law : PySem.W.nsIn K mainGlobals "law" = some (some (.ref f_law)))
    (l_law : K.lookup f_law = some ⟨oc_law, od_law, .func (PySem.W.fnOf "law" "law" (defArgs s_law) (defBody s_law) (defScope s_law) .none kV_law dc_law pm_law an_law cd_law ct_law), sl_law⟩)
    (c_law : PySem.W.codeIn K cd_law "law" = true)
    (k_law : PySem.W.keepIn K (.ref f_law) = true)
    (aC_StoreError : PySem.W.nsIn K mainGlobals "StoreError" = some (some (.ref C_StoreError)))
    (aC_NotComparable : PySem.W.nsIn K mainGlobals "NotComparable" = some (some (.ref C_NotComparable)))
    (xk_NotComparable : PySem.W.keepIn K (.ref C_NotComparable) = true)
    (xe_NotComparable : PySem.W.subIn K (.ref C_NotComparable) (.type "BaseException") = some true)
    (xy_NotComparable : PySem.W.typeIn K (.ref C_NotComparable) = some (.type "type"))
    (xs_NotComparable : PySem.W.isClsIn K C_NotComparable = true)
    (xq_NotComparable : PySem.W.excIn K C_NotComparable [.type "ValueError", .type "Exception", .type "BaseException", .type "object"] "ValueError.__new__" = true)
    (aC_MoreSpread : PySem.W.nsIn K mainGlobals "MoreSpread" = some (some (.ref C_MoreSpread)))
    (xk_MoreSpread : PySem.W.keepIn K (.ref C_MoreSpread) = true)
    (xe_MoreSpread : PySem.W.subIn K (.ref C_MoreSpread) (.type "BaseException") = some true)
    (xy_MoreSpread : PySem.W.typeIn K (.ref C_MoreSpread) = some (.type "type"))
    (xs_MoreSpread : PySem.W.isClsIn K C_MoreSpread = true)
    (xL_MoreSpread : K.lookup C_MoreSpread = some (excClassObj xnm_MoreSpread xqn_MoreSpread C_MoreSpread xN_MoreSpread xbs_MoreSpread [.ref C_StoreError, .type "ValueError", .type "Exception", .type "BaseException", .type "object"] true xsn_MoreSpread xsub_MoreSpread xab_MoreSpread xcol_MoreSpread xdd_MoreSpread xm0_MoreSpread xm1_MoreSpread xm2_MoreSpread xm3_MoreSpread xm5_MoreSpread "ValueError.__new__"))
    (xsa_MoreSpread : PySem.W.findIn K (.ref C_MoreSpread) "__setattr__" = some (some (.builtin "object.__setattr__")))
    (xga_MoreSpread : PySem.W.findIn K (.ref C_MoreSpread) "__getattribute__" = some (some (.builtin "BaseException.__getattribute__")))
    (xgg_MoreSpread : PySem.W.findIn K (.ref C_MoreSpread) "__getattr__" = some none)
    (xnb_MoreSpread : PySem.W.findIn K (.ref C_MoreSpread) "level" = some none)
    (xi_MoreSpread : PySem.W.findIn K (.ref C_MoreSpread) "__init__" = some (some (.ref fX_MoreSpread)))
    (xt_MoreSpread : PySem.W.typeIn K (.ref fX_MoreSpread) = some (.type "function"))
    (xl_MoreSpread : K.lookup fX_MoreSpread = some ⟨xoc_MoreSpread, xod_MoreSpread, .func (PySem.W.fnOf "__init__" "MoreSpread.__init__" (PySem.LowX_MoreSpread.iA ⟨8, 17, 8, 21⟩ ⟨8, 23, 8, 28⟩) (PySem.LowX_MoreSpread.iB ⟨9, 8, 9, 12⟩ ⟨9, 8, 9, 18⟩ ⟨9, 21, 9, 26⟩ ⟨9, 8, 9, 26⟩) PySem.LowX_MoreSpread.iS .none .none xdc_MoreSpread xpm_MoreSpread xan_MoreSpread xcd_MoreSpread xct_MoreSpread), xsl_MoreSpread⟩)
    (xc_MoreSpread : PySem.W.codeIn K xcd_MoreSpread "MoreSpread.__init__" = true)
    (xh_MoreSpread : PySem.W.hasDictIn K C_MoreSpread = true)
    (xp_NotComparable_NotComparable : PySem.W.subIn K (.ref C_NotComparable) (.ref C_NotComparable) = some true)
    (xp_NotComparable_MoreSpread : PySem.W.subIn K (.ref C_NotComparable) (.ref C_MoreSpread) = some false)
    (xp_MoreSpread_NotComparable : PySem.W.subIn K (.ref C_MoreSpread) (.ref C_NotComparable) = some false)
    (xp_MoreSpread_MoreSpread : PySem.W.subIn K (.ref C_MoreSpread) (.ref C_MoreSpread) = some true)
    (z_abs : PySem.W.nsIn K mainGlobals "abs" = some none)
    (z_all : PySem.W.nsIn K mainGlobals "all" = some none)
    (z_bool : PySem.W.nsIn K mainGlobals "bool" = some none)
    (z_int : PySem.W.nsIn K mainGlobals "int" = some none)
    (z_isinstance : PySem.W.nsIn K mainGlobals "isinstance" = some none)
    (z_len : PySem.W.nsIn K mainGlobals "len" = some none)
    (z_list : PySem.W.nsIn K mainGlobals "list" = some none)
    (z_max : PySem.W.nsIn K mainGlobals "max" = some none)
    (z_min : PySem.W.nsIn K mainGlobals "min" = some none)
    (z_range : PySem.W.nsIn K mainGlobals "range" = some none)
    (z_repr : PySem.W.nsIn K mainGlobals "repr" = some none)
    (z_set : PySem.W.nsIn K mainGlobals "set" = some none)
    (z_sorted : PySem.W.nsIn K mainGlobals "sorted" = some none)
    (z_str : PySem.W.nsIn K mainGlobals "str" = some none)
    (z_sum : PySem.W.nsIn K mainGlobals "sum" = some none)
    (z_tuple : PySem.W.nsIn K mainGlobals "tuple" = some none)
    : ∃ (fd : FuncData) (G : Gx), G.K = K ∧ (∀ (s : Shared) (u : Value), BindsTo s fd ⟨[u], []⟩ [("script", u)]) ∧ ∀ base : Heap, K.In base → base.Ns mainGlobals mg → FnG P w K mg base 5 fa fd ["script"] (spV G 1 [] den_law) := by
  have e := hfa.symm.trans (PySem.W.mg_of X Gn a_law)
  cases e
  have F__law_feed := fun_mk (st := s__law_feed) l__law_feed c__law_feed k__law_feed
  have F__law_take := fun_mk (st := s__law_take) l__law_take c__law_take k__law_take
  have F__law_pick := fun_mk (st := s__law_pick) l__law_pick c__law_pick k__law_pick
  have F__law_ages := fun_mk (st := s__law_ages) l__law_ages c__law_ages k__law_ages
  have F__law_calmer := fun_mk (st := s__law_calmer) l__law_calmer c__law_calmer k__law_calmer
  have F_level_cost := fun_mk (st := s_level_cost) l_level_cost c_level_cost k_level_cost
  have F_level_against := fun_mk (st := s_level_against) l_level_against c_level_against k_level_against
  have F_falling := fun_mk (st := s_falling) l_falling c_falling k_falling
  have F_next_places := fun_mk (st := s_next_places) l_next_places c_next_places k_next_places
  have F_transfers := fun_mk (st := s_transfers) l_transfers c_transfers k_transfers
  have F__law_own_steps := fun_mk (st := s__law_own_steps) l__law_own_steps c__law_own_steps k__law_own_steps
  have F_is_integer := fun_mk (st := s_is_integer) l_is_integer c_is_integer k_is_integer
  have F_after_transfer := fun_mk (st := s_after_transfer) l_after_transfer c_after_transfer k_after_transfer
  have F_is_transfers := fun_mk (st := s_is_transfers) l_is_transfers c_is_transfers k_is_transfers
  have F__law_leads := fun_mk (st := s__law_leads) l__law_leads c__law_leads k__law_leads
  have F__law_own_right := fun_mk (st := s__law_own_right) l__law_own_right c__law_own_right k__law_own_right
  have F__law_changed := fun_mk (st := s__law_changed) l__law_changed c__law_changed k__law_changed
  have F_law := fun_mk (st := s_law) l_law c_law k_law
  have T : Tx K mg C_NotComparable C_MoreSpread f__law_feed f__law_take f__law_pick f__law_ages f__law_calmer f_level_cost f_level_against f_falling f_next_places f_transfers f__law_own_steps f_is_integer f_after_transfer f_is_transfers f__law_leads f__law_own_right f__law_changed fa fX_MoreSpread (PySem.W.fnOf "_law_feed" "_law_feed" (defArgs s__law_feed) (defBody s__law_feed) (defScope s__law_feed) .none kV__law_feed dc__law_feed pm__law_feed an__law_feed cd__law_feed ct__law_feed) (PySem.W.fnOf "_law_take" "_law_take" (defArgs s__law_take) (defBody s__law_take) (defScope s__law_take) .none kV__law_take dc__law_take pm__law_take an__law_take cd__law_take ct__law_take) (PySem.W.fnOf "_law_pick" "_law_pick" (defArgs s__law_pick) (defBody s__law_pick) (defScope s__law_pick) .none kV__law_pick dc__law_pick pm__law_pick an__law_pick cd__law_pick ct__law_pick) (PySem.W.fnOf "_law_ages" "_law_ages" (defArgs s__law_ages) (defBody s__law_ages) (defScope s__law_ages) .none kV__law_ages dc__law_ages pm__law_ages an__law_ages cd__law_ages ct__law_ages) (PySem.W.fnOf "_law_calmer" "_law_calmer" (defArgs s__law_calmer) (defBody s__law_calmer) (defScope s__law_calmer) .none kV__law_calmer dc__law_calmer pm__law_calmer an__law_calmer cd__law_calmer ct__law_calmer) (PySem.W.fnOf "level_cost" "level_cost" (defArgs s_level_cost) (defBody s_level_cost) (defScope s_level_cost) .none kV_level_cost dc_level_cost pm_level_cost an_level_cost cd_level_cost ct_level_cost) (PySem.W.fnOf "level_against" "level_against" (defArgs s_level_against) (defBody s_level_against) (defScope s_level_against) .none kV_level_against dc_level_against pm_level_against an_level_against cd_level_against ct_level_against) (PySem.W.fnOf "falling" "falling" (defArgs s_falling) (defBody s_falling) (defScope s_falling) .none kV_falling dc_falling pm_falling an_falling cd_falling ct_falling) (PySem.W.fnOf "next_places" "next_places" (defArgs s_next_places) (defBody s_next_places) (defScope s_next_places) .none kV_next_places dc_next_places pm_next_places an_next_places cd_next_places ct_next_places) (PySem.W.fnOf "transfers" "transfers" (defArgs s_transfers) (defBody s_transfers) (defScope s_transfers) .none kV_transfers dc_transfers pm_transfers an_transfers cd_transfers ct_transfers) (PySem.W.fnOf "_law_own_steps" "_law_own_steps" (defArgs s__law_own_steps) (defBody s__law_own_steps) (defScope s__law_own_steps) .none kV__law_own_steps dc__law_own_steps pm__law_own_steps an__law_own_steps cd__law_own_steps ct__law_own_steps) (PySem.W.fnOf "is_integer" "is_integer" (defArgs s_is_integer) (defBody s_is_integer) (defScope s_is_integer) .none kV_is_integer dc_is_integer pm_is_integer an_is_integer cd_is_integer ct_is_integer) (PySem.W.fnOf "after_transfer" "after_transfer" (defArgs s_after_transfer) (defBody s_after_transfer) (defScope s_after_transfer) .none kV_after_transfer dc_after_transfer pm_after_transfer an_after_transfer cd_after_transfer ct_after_transfer) (PySem.W.fnOf "is_transfers" "is_transfers" (defArgs s_is_transfers) (defBody s_is_transfers) (defScope s_is_transfers) .none kV_is_transfers dc_is_transfers pm_is_transfers an_is_transfers cd_is_transfers ct_is_transfers) (PySem.W.fnOf "_law_leads" "_law_leads" (defArgs s__law_leads) (defBody s__law_leads) (defScope s__law_leads) .none kV__law_leads dc__law_leads pm__law_leads an__law_leads cd__law_leads ct__law_leads) (PySem.W.fnOf "_law_own_right" "_law_own_right" (defArgs s__law_own_right) (defBody s__law_own_right) (defScope s__law_own_right) .none kV__law_own_right dc__law_own_right pm__law_own_right an__law_own_right cd__law_own_right ct__law_own_right) (PySem.W.fnOf "_law_changed" "_law_changed" (defArgs s__law_changed) (defBody s__law_changed) (defScope s__law_changed) .none kV__law_changed dc__law_changed pm__law_changed an__law_changed cd__law_changed ct__law_changed) (PySem.W.fnOf "law" "law" (defArgs s_law) (defBody s_law) (defScope s_law) .none kV_law dc_law pm_law an_law cd_law ct_law)   := {
    F__law_feed := .of F__law_feed
    m__law_feed := PySem.W.mg_of X Gn a__law_feed
    k__law_feed := k__law_feed
    b__law_feed := F__law_feed.binds (ps := ["script", "index"]) fun _ _ _ _ _ _ us hl => match us, hl with | [_, _], _ => rfl
    F__law_take := .of F__law_take
    m__law_take := PySem.W.mg_of X Gn a__law_take
    k__law_take := k__law_take
    b__law_take := F__law_take.binds (ps := ["feed", "size"]) fun _ _ _ _ _ _ us hl => match us, hl with | [_, _], _ => rfl
    F__law_pick := .of F__law_pick
    m__law_pick := PySem.W.mg_of X Gn a__law_pick
    k__law_pick := k__law_pick
    b__law_pick := F__law_pick.binds (ps := ["feed", "options"]) fun _ _ _ _ _ _ us hl => match us, hl with | [_, _], _ => rfl
    F__law_ages := .of F__law_ages
    m__law_ages := PySem.W.mg_of X Gn a__law_ages
    k__law_ages := k__law_ages
    b__law_ages := F__law_ages.binds (ps := ["feed", "size"]) fun _ _ _ _ _ _ us hl => match us, hl with | [_, _], _ => rfl
    F__law_calmer := .of F__law_calmer
    m__law_calmer := PySem.W.mg_of X Gn a__law_calmer
    k__law_calmer := k__law_calmer
    b__law_calmer := F__law_calmer.binds (ps := ["feed", "some_ages"]) fun _ _ _ _ _ _ us hl => match us, hl with | [_, _], _ => rfl
    F_level_cost := .of F_level_cost
    m_level_cost := PySem.W.mg_of X Gn a_level_cost
    k_level_cost := k_level_cost
    b_level_cost := F_level_cost.binds (ps := ["ages", "level"]) fun _ _ _ _ _ _ us hl => match us, hl with | [_, _], _ => rfl
    F_level_against := .of F_level_against
    m_level_against := PySem.W.mg_of X Gn a_level_against
    k_level_against := k_level_against
    b_level_against := F_level_against.binds (ps := ["first", "second"]) fun _ _ _ _ _ _ us hl => match us, hl with | [_, _], _ => rfl
    F_falling := .of F_falling
    m_falling := PySem.W.mg_of X Gn a_falling
    k_falling := k_falling
    b_falling := F_falling.binds (ps := ["ages"]) fun _ _ _ _ _ _ us hl => match us, hl with | [_], _ => rfl
    F_next_places := .of F_next_places
    m_next_places := PySem.W.mg_of X Gn a_next_places
    k_next_places := k_next_places
    b_next_places := F_next_places.binds (ps := ["wanted", "found"]) fun _ _ _ _ _ _ us hl => match us, hl with | [_, _], _ => rfl
    F_transfers := .of F_transfers
    m_transfers := PySem.W.mg_of X Gn a_transfers
    k_transfers := k_transfers
    b_transfers := F_transfers.binds (ps := ["first", "second"]) fun _ _ _ _ _ _ us hl => match us, hl with | [_, _], _ => rfl
    F__law_own_steps := .of F__law_own_steps
    m__law_own_steps := PySem.W.mg_of X Gn a__law_own_steps
    k__law_own_steps := k__law_own_steps
    b__law_own_steps := F__law_own_steps.binds (ps := ["feed", "some_ages"]) fun _ _ _ _ _ _ us hl => match us, hl with | [_, _], _ => rfl
    F_is_integer := .of F_is_integer
    m_is_integer := PySem.W.mg_of X Gn a_is_integer
    k_is_integer := k_is_integer
    b_is_integer := F_is_integer.binds (ps := ["value"]) fun _ _ _ _ _ _ us hl => match us, hl with | [_], _ => rfl
    F_after_transfer := .of F_after_transfer
    m_after_transfer := PySem.W.mg_of X Gn a_after_transfer
    k_after_transfer := k_after_transfer
    b_after_transfer := F_after_transfer.binds (ps := ["ages", "step"]) fun _ _ _ _ _ _ us hl => match us, hl with | [_, _], _ => rfl
    F_is_transfers := .of F_is_transfers
    m_is_transfers := PySem.W.mg_of X Gn a_is_transfers
    k_is_transfers := k_is_transfers
    b_is_transfers := F_is_transfers.binds (ps := ["first", "second", "value"]) fun _ _ _ _ _ _ us hl => match us, hl with | [_, _, _], _ => rfl
    F__law_leads := .of F__law_leads
    m__law_leads := PySem.W.mg_of X Gn a__law_leads
    k__law_leads := k__law_leads
    b__law_leads := F__law_leads.binds (ps := ["first", "second", "told_one"]) fun _ _ _ _ _ _ us hl => match us, hl with | [_, _, _], _ => rfl
    F__law_own_right := .of F__law_own_right
    m__law_own_right := PySem.W.mg_of X Gn a__law_own_right
    k__law_own_right := k__law_own_right
    b__law_own_right := F__law_own_right.binds (ps := ["feed", "some_ages"]) fun _ _ _ _ _ _ us hl => match us, hl with | [_, _], _ => rfl
    F__law_changed := .of F__law_changed
    m__law_changed := PySem.W.mg_of X Gn a__law_changed
    k__law_changed := k__law_changed
    b__law_changed := F__law_changed.binds (ps := ["feed", "told_one", "some_ages"]) fun _ _ _ _ _ _ us hl => match us, hl with | [_, _, _], _ => rfl
    F_law := .of F_law
    m_law := PySem.W.mg_of X Gn a_law
    k_law := k_law
    b_law := F_law.binds (ps := ["script"]) fun _ _ _ _ _ _ us hl => match us, hl with | [_], _ => rfl
    xq_NotComparable := xq_NotComparable
    xg_NotComparable := PySem.W.mg_of X Gn aC_NotComparable
    xk_NotComparable := xk_NotComparable
    xe_NotComparable := xe_NotComparable
    xy_NotComparable := xy_NotComparable
    xt_NotComparable_NotComparable := L2N.exm_of xe_NotComparable xs_NotComparable xy_NotComparable xp_NotComparable_NotComparable
    xt_NotComparable_MoreSpread := L2N.exm_of xe_MoreSpread xs_MoreSpread xy_MoreSpread xp_NotComparable_MoreSpread
    x_MoreSpread := { gC := PySem.W.mg_of X Gn aC_MoreSpread, cls := ⟨xnm_MoreSpread, xqn_MoreSpread, xN_MoreSpread, xbs_MoreSpread, _, xsn_MoreSpread, xsub_MoreSpread, xab_MoreSpread, xcol_MoreSpread, xdd_MoreSpread, xm0_MoreSpread, xm1_MoreSpread, xm2_MoreSpread, xm3_MoreSpread, xm5_MoreSpread, xL_MoreSpread, (show PySem.HandSPX.refsVE [.type "ValueError", .type "Exception", .type "BaseException", .type "object"] = true from by decide +kernel)⟩, sa := xsa_MoreSpread, ga := xga_MoreSpread, gg := xgg_MoreSpread, noN := xnb_MoreSpread, iC := xi_MoreSpread, tC := xt_MoreSpread, kC := xk_MoreSpread, exC := xe_MoreSpread, tyC := xy_MoreSpread, hdC := xh_MoreSpread, te := L2N.exm_of xe_MoreSpread xs_MoreSpread xy_MoreSpread xp_MoreSpread_MoreSpread, fn := ⟨_, _, _, _, _, _, _, _, _, _, _, _, _, _, xl_MoreSpread, xc_MoreSpread⟩ }
    xt_MoreSpread_NotComparable := L2N.exm_of xe_NotComparable xs_NotComparable xy_NotComparable xp_MoreSpread_NotComparable
    xt_MoreSpread_MoreSpread := L2N.exm_of xe_MoreSpread xs_MoreSpread xy_MoreSpread xp_MoreSpread_MoreSpread
    z_abs := PySem.W.mg_none_of X Gn z_abs
    z_all := PySem.W.mg_none_of X Gn z_all
    z_bool := PySem.W.mg_none_of X Gn z_bool
    z_int := PySem.W.mg_none_of X Gn z_int
    z_isinstance := PySem.W.mg_none_of X Gn z_isinstance
    z_len := PySem.W.mg_none_of X Gn z_len
    z_list := PySem.W.mg_none_of X Gn z_list
    z_max := PySem.W.mg_none_of X Gn z_max
    z_min := PySem.W.mg_none_of X Gn z_min
    z_range := PySem.W.mg_none_of X Gn z_range
    z_repr := PySem.W.mg_none_of X Gn z_repr
    z_set := PySem.W.mg_none_of X Gn z_set
    z_sorted := PySem.W.mg_none_of X Gn z_sorted
    z_str := PySem.W.mg_none_of X Gn z_str
    z_sum := PySem.W.mg_none_of X Gn z_sum
    z_tuple := PySem.W.mg_none_of X Gn z_tuple
  }
  exact ⟨_, gx K C_NotComparable C_MoreSpread w, rfl, fun s v => .of_eq rfl, fun base _ _ => ok_law T⟩
end
end LW

namespace LW
open PySem L2 PV
/-! k20: lists of ages, level costs and the sums of the greatest -/
def lc (l : Int) (xs : List Int) : Int := (xs.map fun x => max 0 (x - l)).sum
def fall (xs : List Int) : List Int := (isort xs).reverse
def psum (xs : List Int) (k : Nat) : Int := (xs.take k).sum
theorem lc_cons {l x : Int} {xs : List Int} : lc l (x :: xs) = max 0 (x - l) + lc l xs := by simp [lc]
theorem lc_nonneg {l : Int} : ∀ xs : List Int, 0 ≤ lc l xs
  | [] => by simp [lc]
  | x :: xs => by rw [lc_cons]; have := lc_nonneg (l := l) xs; omega
theorem lc_perm {l : Int} {xs ys : List Int} (p : xs.Perm ys) : lc l xs = lc l ys := by
  induction p with
  | nil => rfl
  | cons x _ ih => rw [lc_cons, lc_cons, ih]
  | swap x y xs => rw [lc_cons, lc_cons, lc_cons, lc_cons]; omega
  | trans _ _ h1 h2 => rw [h1, h2]
theorem fall_perm (xs : List Int) : (fall xs).Perm xs := (List.reverse_perm _).trans (isort_perm xs)
theorem fall_down (xs : List Int) : (fall xs).Pairwise (· ≥ ·) := List.pairwise_reverse.mpr (isort_up xs)
theorem psum_zero {xs : List Int} : psum xs 0 = 0 := by simp [psum]
theorem psum_cons {x : Int} {xs : List Int} {k : Nat} : psum (x :: xs) (k + 1) = x + psum xs k := by simp [psum]
theorem psum_le_lc {l : Int} : ∀ (xs : List Int) (k : Nat), k ≤ xs.length → psum xs k - k * l ≤ lc l xs
  | xs, 0, _ => by rw [psum_zero]; have := lc_nonneg (l := l) xs; omega
  | [], k + 1, h => by simp at h
  | x :: xs, k + 1, h => by
    have ih := psum_le_lc (l := l) xs k (by simpa using h)
    rw [psum_cons, lc_cons]
    have e : ((k + 1 : Nat) : Int) * l = (k : Int) * l + l := by rw [Int.natCast_add, Int.add_mul]; simp
    rw [e]
    omega
theorem lc_zero {l : Int} : ∀ {xs : List Int}, (∀ x ∈ xs, x ≤ l) → lc l xs = 0
  | [], _ => rfl
  | x :: xs, h => by
    rw [lc_cons, lc_zero fun y hy => h y (List.mem_cons_of_mem _ hy)]
    have := h x List.mem_cons_self
    omega
/-- the cost at the last of the first k+1 -/
theorem lc_at {l : Int} : ∀ {xs : List Int} {k : Nat}, xs.Pairwise (· ≥ ·) → xs[k]? = some l → lc l xs = psum xs (k + 1) - ((k + 1 : Nat) : Int) * l
  | [], k, _, h => by simp at h
  | x :: xs, 0, h, e => by
    obtain ⟨h1, h2⟩ := List.pairwise_cons.mp h
    simp only [List.getElem?_cons_zero, Option.some.injEq] at e
    subst e
    rw [lc_zero (xs := x :: xs) fun y hy => ?_, psum_cons, psum_zero]
    · simp
    · rcases List.mem_cons.mp hy with rfl | hy
      · omega
      · have := h1 y hy; omega
  | x :: xs, k + 1, h, e => by
    obtain ⟨h1, h2⟩ := List.pairwise_cons.mp h
    simp only [List.getElem?_cons_succ] at e
    have ih := lc_at h2 e
    have hx := h1 l (List.mem_of_getElem? e)
    rw [lc_cons, psum_cons, ih]
    have e : ((k + 1 + 1 : Nat) : Int) * l = ((k + 1 : Nat) : Int) * l + l := by rw [Int.natCast_add (k + 1), Int.add_mul]; simp
    rw [e]
    omega
def NoMore (a b : List Int) : Prop := ∀ k, k < a.length → psum (fall a) k ≤ psum (fall b) k
theorem psum_all {xs : List Int} : psum xs xs.length = xs.sum := by simp [psum]
theorem sum_perm {xs ys : List Int} (p : xs.Perm ys) : xs.sum = ys.sum := by
  induction p with
  | nil => rfl
  | cons x _ ih => simp [ih]
  | swap x y xs => simp only [List.sum_cons]; omega
  | trans _ _ h1 h2 => rw [h1, h2]
theorem NoMore.le {a b : List Int} (h : NoMore a b) (hl : a.length = b.length) (hs : a.sum = b.sum) (k : Nat) (hk : k ≤ a.length) : psum (fall a) k ≤ psum (fall b) k := by
  by_cases e : k = a.length
  · have e1 : psum (fall a) k = a.sum := by rw [e, ← (fall_perm a).length_eq, psum_all, sum_perm (fall_perm a)]
    have e2 : psum (fall b) k = b.sum := by rw [e, hl, ← (fall_perm b).length_eq, psum_all, sum_perm (fall_perm b)]
    omega
  · exact h k (by omega)
theorem NoMore.of_lc {a b : List Int} (hl : a.length = b.length) (h : ∀ l ∈ b, LW.lc l a ≤ LW.lc l b) : NoMore a b := by
  intro k hk
  cases k with
  | zero => rw [psum_zero, psum_zero]; exact Int.le_refl _
  | succ k =>
    have hb : k < (fall b).length := by rw [(fall_perm b).length_eq]; omega
    have e1 := lc_at (fall_down b) (List.getElem?_eq_getElem hb)
    have h1 := h _ ((fall_perm b).mem_iff.mp (List.getElem_mem hb))
    have h2 := psum_le_lc (l := (fall b)[k]) (fall a) (k + 1) (by rw [(fall_perm a).length_eq]; omega)
    rw [lc_perm (fall_perm a)] at h2
    rw [lc_perm (fall_perm b)] at e1
    omega
/-! k20: transfers -/
def at0 (xs : List Int) (k : Nat) : Int := xs.getD k 0
def cnt : List Int → List Int → Nat
  | x :: xs, y :: ys => (if x = y then 0 else 1) + cnt xs ys
  | _, _ => 0
theorem cnt_le : ∀ (xs ys : List Int), cnt xs ys ≤ xs.length
  | [], _ => by simp [cnt]
  | x :: xs, [] => by simp [cnt]
  | x :: xs, y :: ys => by
    have := cnt_le xs ys
    simp only [cnt, List.length_cons]
    split <;> omega
theorem cnt_set : ∀ {xs ys : List Int} {i : Nat} {v : Int}, xs.length = ys.length → i < xs.length → cnt (xs.set i v) ys + (if at0 xs i = at0 ys i then 0 else 1) = cnt xs ys + (if v = at0 ys i then 0 else 1)
  | [], _, _, _, _, h => by simp at h
  | x :: xs, [], _, _, h, _ => by simp at h
  | x :: xs, y :: ys, 0, v, hl, h => by
    simp only [List.set_cons_zero, cnt, at0, List.getD_cons_zero]
    omega
  | x :: xs, y :: ys, i + 1, v, hl, h => by
    have := cnt_set (xs := xs) (ys := ys) (i := i) (v := v) (by simpa using hl) (by simpa using h)
    show ((if x = y then 0 else 1) + cnt (xs.set i v) ys) + (if at0 xs i = at0 ys i then 0 else 1) = ((if x = y then 0 else 1) + cnt xs ys) + (if v = at0 ys i then 0 else 1)
    rw [Nat.add_assoc, this, Nat.add_assoc]
theorem psum_set : ∀ {xs : List Int} {i k : Nat} {v : Int}, i < xs.length → psum (xs.set i v) k = psum xs k + (if i < k then v - at0 xs i else 0)
  | [], _, _, _, h => by simp at h
  | x :: xs, _, 0, v, h => by simp [psum]
  | x :: xs, 0, k + 1, v, h => by simp only [List.set_cons_zero, psum_cons, at0, List.getD_cons_zero]; simp only [Nat.zero_lt_succ, if_true]; omega
  | x :: xs, i + 1, k + 1, v, h => by
    have := psum_set (xs := xs) (i := i) (k := k) (v := v) (by simpa using h)
    simp only [List.set_cons_succ, psum_cons, at0, List.getD_cons_succ, this, Nat.add_lt_add_iff_right]
    omega
theorem psum_succ : ∀ {xs : List Int} {k : Nat}, k < xs.length → psum xs (k + 1) = psum xs k + at0 xs k
  | [], _, h => by simp at h
  | x :: xs, 0, h => by simp [psum, at0]
  | x :: xs, k + 1, h => by
    have := psum_succ (xs := xs) (k := k) (by simpa using h)
    rw [psum_cons, psum_cons, this]
    simp only [at0, List.getD_cons_succ]
    omega
theorem at0_set {xs : List Int} {i k : Nat} {v : Int} (h : i < xs.length) : at0 (xs.set i v) k = if i = k then v else at0 xs k := by
  unfold at0
  rw [List.getD_eq_getElem?_getD, List.getD_eq_getElem?_getD, List.getElem?_set]
  by_cases e : i = k
  · subst e; simp [h]
  · simp [e]
/-- the first lists' sums are no greater -/
def Dom (w f : List Int) : Prop := ∀ k, k ≤ w.length → psum w k ≤ psum f k
theorem psum_pt {w f : List Int} : ∀ {k : Nat}, k ≤ w.length → k ≤ f.length → (∀ i, i < k → at0 w i ≤ at0 f i) → psum w k ≤ psum f k
  | 0, _, _, _ => by rw [psum_zero, psum_zero]; exact Int.le_refl _
  | k + 1, h1, h2, h => by
    have ih := psum_pt (k := k) (by omega) (by omega) fun i hi => h i (by omega)
    rw [psum_succ (by omega), psum_succ (by omega)]
    have := h k (by omega)
    omega
theorem psum_gap {w f : List Int} {q : Nat} : ∀ {k : Nat}, q < k → k ≤ w.length → k ≤ f.length → (∀ i, i < k → at0 w i ≤ at0 f i) → psum w k + (at0 f q - at0 w q) ≤ psum f k
  | 0, h0, _, _, _ => by omega
  | k + 1, h0, h1, h2, h => by
    rw [psum_succ (by omega), psum_succ (by omega)]
    by_cases e : q = k
    · subst e
      have := psum_pt (w := w) (f := f) (k := q) (by omega) (by omega) fun i hi => h i (by omega)
      omega
    · have ih := psum_gap (q := q) (k := k) (by omega) (by omega) (by omega) fun i hi => h i (by omega)
      have := h k (by omega)
      omega
theorem eq_of_pt : ∀ {w f : List Int}, w.length = f.length → (∀ i, i < w.length → at0 w i ≤ at0 f i) → w.sum = f.sum → w = f
  | [], [], _, _, _ => rfl
  | [], _ :: _, h, _, _ => by simp at h
  | _ :: _, [], h, _, _ => by simp at h
  | x :: w, y :: f, hl, h, hs => by
    have hl' : w.length = f.length := by simpa using hl
    have h0 : x ≤ y := by have := h 0 (by simp); simpa [at0] using this
    have ht : ∀ i, i < w.length → at0 w i ≤ at0 f i := fun i hi => by
      have := h (i + 1) (by simp; omega)
      simpa [at0] using this
    have hp := psum_pt (w := w) (f := f) (k := w.length) (Nat.le_refl _) (by omega) ht
    rw [psum_all] at hp
    rw [hl', psum_all] at hp
    simp only [List.sum_cons] at hs
    have e : x = y := by omega
    rw [e, eq_of_pt hl' ht (by omega)]
/-- the place with too little that comes first -/
theorem low_ex {w f : List Int} (hl : w.length = f.length) (hs : w.sum = f.sum) (hn : f ≠ w) : ∃ p, ((List.range f.length).filter fun k => decide (at0 f k < at0 w k)).head? = some p ∧ p < f.length ∧ at0 f p < at0 w p ∧ ∀ i, i < p → at0 w i ≤ at0 f i := by
  rw [List.head?_filter]
  cases e : (List.range f.length).find? fun k => decide (at0 f k < at0 w k) with
  | none =>
    exfalso
    rw [List.find?_eq_none] at e
    refine hn (eq_of_pt hl (fun i hi => ?_) hs).symm
    have := e i (List.mem_range.mpr (by omega))
    simp only [decide_eq_true_eq] at this
    omega
  | some p =>
    rw [List.find?_range_eq_some] at e
    obtain ⟨h1, h2, h3⟩ := e
    refine ⟨p, rfl, List.mem_range.mp h2, of_decide_eq_true h1, fun i hi => ?_⟩
    have := h3 i hi
    simp only [Bool.not_eq_true', decide_eq_false_iff_not] at this
    omega
theorem high_ne {w f : List Int} {p : Nat} (hl : w.length = f.length) (hd : Dom w f) (hp : p < f.length) (hlt : at0 f p < at0 w p) : ((List.range p).filter fun k => decide (at0 f k > at0 w k)) ≠ [] := by
  intro e
  rw [List.filter_eq_nil_iff] at e
  have h1 := psum_pt (w := f) (f := w) (k := p) (by omega) (by omega) fun i hi => by
    have := e i (List.mem_range.mpr hi)
    simp only [decide_eq_true_eq] at this
    omega
  have h2 := hd (p + 1) (by omega)
  rw [psum_succ (by omega), psum_succ (by omega)] at h2
  omega
theorem set_swap : ∀ {xs : List Int} {i : Nat} {v : Int}, i < xs.length → (at0 xs i :: xs.set i v).Perm (v :: xs)
  | [], _, _, h => by simp at h
  | x :: xs, 0, v, _ => by simp only [List.set_cons_zero, at0, List.getD_cons_zero]; exact List.Perm.swap _ _ _
  | x :: xs, i + 1, v, h => by
    have := set_swap (xs := xs) (i := i) (v := v) (by simpa using h)
    simp only [List.set_cons_succ, at0, List.getD_cons_succ] at this ⊢
    exact (List.Perm.swap _ _ _).trans ((List.Perm.cons x this).trans (List.Perm.swap _ _ _))
/-- one transfer -/
structure Step (w f f' : List Int) (h l m : Int) : Prop where
  pos : 1 ≤ m
  room : l + m ≤ h - m
  len : f'.length = f.length
  sum : f'.sum = f.sum
  dom : Dom w f'
  less : cnt f' w < cnt f w
  mh : h ∈ f
  ml : l ∈ f
  perm : (h :: l :: f').Perm ((h - m) :: (l + m) :: f)
theorem step_ok {w f : List Int} {p q : Nat} (hl : w.length = f.length) (hs : w.sum = f.sum) (hd : Dom w f) (hw : w.Pairwise (· ≥ ·)) (hp : p < f.length) (hq : q < p) (h1 : at0 f p < at0 w p) (h2 : ∀ i, i < p → at0 w i ≤ at0 f i) (h3 : at0 w q < at0 f q) {m : Int} (hm : m = min (at0 f q - at0 w q) (at0 w p - at0 f p)) :
    Step w f ((f.set q (at0 f q - m)).set p (at0 f p + m)) (at0 f q) (at0 f p) m := by
  have hq' : q < f.length := by omega
  have hqw : at0 w p ≤ at0 w q := by
    have h9 := List.pairwise_iff_getElem.mp hw q p (by omega) (by omega) hq
    unfold at0
    rw [List.getD_eq_getElem?_getD, List.getD_eq_getElem?_getD, List.getElem?_eq_getElem (show q < w.length by omega), List.getElem?_eq_getElem (show p < w.length by omega)]
    exact h9
  have hpl : p < (f.set q (at0 f q - m)).length := by rw [List.length_set]; exact hp
  have e1 : at0 (f.set q (at0 f q - m)) p = at0 f p := by rw [at0_set hq', if_neg (by omega)]
  have hps : ∀ k, psum ((f.set q (at0 f q - m)).set p (at0 f p + m)) k = psum f k + (if q < k then -m else 0) + (if p < k then m else 0) := fun k => by
    rw [psum_set hpl, psum_set hq', e1]
    split <;> split <;> omega
  have hlen : ((f.set q (at0 f q - m)).set p (at0 f p + m)).length = f.length := by rw [List.length_set, List.length_set]
  have mem : ∀ k, k < f.length → at0 f k ∈ f := fun k hk => by
    unfold at0
    rw [List.getD_eq_getElem?_getD, List.getElem?_eq_getElem hk]
    exact List.getElem_mem hk
  refine ⟨by omega, by omega, hlen, ?_, fun k hk => ?_, ?_, mem q hq', mem p hp, ?_⟩
  · have := hps f.length
    rw [← hlen, psum_all, hlen, psum_all] at this
    rw [this, if_pos hq', if_pos hp]
    omega
  · rw [hps]
    have hk0 := hd k hk
    by_cases a1 : q < k
    · rw [if_pos a1]
      by_cases a2 : p < k
      · rw [if_pos a2]; omega
      · rw [if_neg a2]
        have := psum_gap (w := w) (f := f) (q := q) (k := k) a1 hk (by omega) fun i hi => h2 i (by omega)
        omega
    · rw [if_neg a1, if_neg (by omega)]; omega
  · have c1 := cnt_set (xs := f) (ys := w) (i := q) (v := at0 f q - m) hl.symm hq'
    have c2 := cnt_set (xs := f.set q (at0 f q - m)) (ys := w) (i := p) (v := at0 f p + m) (by rw [List.length_set]; exact hl.symm) hpl
    rw [e1] at c2
    rw [if_neg (by omega)] at c1 c2
    by_cases a1 : at0 f q - at0 w q ≤ at0 w p - at0 f p
    · rw [if_pos (by omega)] at c1
      split at c2 <;> omega
    · rw [if_pos (by omega)] at c2
      split at c1 <;> omega
  · have s1 := set_swap (xs := f) (i := q) (v := at0 f q - m) hq'
    have s2 := set_swap (xs := f.set q (at0 f q - m)) (i := p) (v := at0 f p + m) hpl
    rw [e1] at s2
    exact (List.Perm.cons _ s2).trans ((List.Perm.swap _ _ _).trans ((List.Perm.cons _ s1).trans (List.Perm.swap _ _ _)))
local macro_rules | `(tactic| walk_at "set") => `(tactic| (repeat (first | with_reducible exact set_z | with_reducible apply set_s | exact set_z | apply set_s)))
local macro_rules | `(tactic| walk_at "is") => `(tactic| (first | exact Is.v | exact Is.loc rfl))
local macro_rules | `(tactic| walk_at "lt") => `(tactic| first | exact ltL rfl | omega | (simp only [List.length_cons, List.length_nil]; omega))
local macro_rules | `(tactic| walk_at "sz") => `(tactic| first | omega | (simp only [sizeLine_eq, List.length_append, List.length_cons, List.length_nil, List.length_map, List.length_replicate, List.length_reverse] at *; omega))
local macro_rules | `(tactic| walk_at "w1") => `(tactic| ((with_reducible apply And.intro); (focus (first | walk_at "sz" | exact rfl))))
local macro_rules | `(tactic| walk_at "w1") => `(tactic| ((with_reducible apply and3); (focus (exact rfl)); (focus (walk_at "lt")); (focus (walk_at "set"))))
local macro_rules | `(tactic| walk_at "w1") => `(tactic| ((with_reducible refine FzD.Bx ?_ ?_); (focus (exact flat_int))))
local macro_rules | `(tactic| walk_at "w1") => `(tactic| (with_reducible refine FzD.O ?_))
local macro_rules | `(tactic| walk_at "w1") => `(tactic| (with_reducible refine FzD.F ?_))
local macro_rules | `(tactic| walk_at "w1") => `(tactic| (with_reducible refine NotW.b ?_))
local macro_rules | `(tactic| walk_at "w1") => `(tactic| (with_reducible refine NotW.d ?_))
local macro_rules | `(tactic| walk_at "w1") => `(tactic| (with_reducible refine BoW.ff ?_))
local macro_rules | `(tactic| walk_at "w1") => `(tactic| (with_reducible refine BoW.tt ?_))
local macro_rules | `(tactic| walk_at "w1") => `(tactic| (with_reducible refine TW.tp ?_))
local macro_rules | `(tactic| walk_at "w1") => `(tactic| (with_reducible refine TW.tupB ?_))
local macro_rules | `(tactic| walk_at "w1") => `(tactic| (with_reducible refine TW.tupF ?_))
local macro_rules | `(tactic| walk_at "w1") => `(tactic| ((with_reducible apply par1); (focus (repeat (first | with_reducible exact st0 | (apply st1; (focus (exact rfl)); (focus (walk_at "lt")); (focus (walk_at "set"))))))))
local macro_rules | `(tactic| walk_at "w1") => `(tactic| (with_reducible refine TW.tup3F ?_))
local macro_rules | `(tactic| walk_at "w1") => `(tactic| (with_reducible refine TW.tup3B ?_))
local macro_rules | `(tactic| walk_at "w1") => `(tactic| (with_reducible refine TW.tup2F ?_))
local macro_rules | `(tactic| walk_at "w1") => `(tactic| (with_reducible refine TW.tup2B ?_))
local macro_rules | `(tactic| walk_at "w1") => `(tactic| (with_reducible refine TsW.cons ?_))
local macro_rules | `(tactic| walk_at "w1") => `(tactic| (with_reducible refine TsW.nil ?_))
local macro_rules | `(tactic| walk_at "w1") => `(tactic| ((with_reducible apply TW.n); (focus (exact rfl)); (focus (walk_at "lt")); (focus (walk_at "set"))))
local macro_rules | `(tactic| walk_at "w1") => `(tactic| ((with_reducible refine R1W.go ?_ ?_); (focus omega)))
local macro_rules | `(tactic| walk_at "w1") => `(tactic| (with_reducible refine ItsW.tupB ?_))
local macro_rules | `(tactic| walk_at "w1") => `(tactic| (with_reducible refine ItsW.tupF ?_))
local macro_rules | `(tactic| walk_at "w1") => `(tactic| (with_reducible refine ItsW.lstO ?_))
local macro_rules | `(tactic| walk_at "w1") => `(tactic| (with_reducible refine ItsW.lstB ?_))
local macro_rules | `(tactic| walk_at "w1") => `(tactic| (with_reducible refine ItsW.lstF ?_))
local macro_rules | `(tactic| walk_at "w1") => `(tactic| (with_reducible refine IW.r2 ?_))
local macro_rules | `(tactic| walk_at "w1") => `(tactic| (with_reducible refine IW.r1 ?_))
local macro_rules | `(tactic| walk_at "w1") => `(tactic| (with_reducible refine IW.seq ?_))
local macro_rules | `(tactic| walk_at "w1") => `(tactic| ((with_reducible refine PtW.ioT ?_ ?_); (focus (exact rfl))))
local macro_rules | `(tactic| walk_at "w1") => `(tactic| ((with_reducible apply PtW.io); (focus (walk_at "lt")); (focus (walk_at "set"))))
local macro_rules | `(tactic| walk_at "w1") => `(tactic| (with_reducible refine PtW.f ?_))
local macro_rules | `(tactic| walk_at "w1") => `(tactic| (with_reducible refine PtW.b ?_))
local macro_rules | `(tactic| walk_at "w1") => `(tactic| (with_reducible refine PtW.nil ?_))
local macro_rules | `(tactic| walk_at "w1") => `(tactic| (with_reducible refine PaW.fF ?_))
local macro_rules | `(tactic| walk_at "w1") => `(tactic| ((with_reducible apply PaW.bOb); (focus (exact rfl)); (focus (repeat (first | exact mapD_n | apply mapD_c)))))
local macro_rules | `(tactic| walk_at "w1") => `(tactic| ((with_reducible apply PaW.b); (focus (walk_at "is"))))
local macro_rules | `(tactic| walk_at "w1") => `(tactic| (with_reducible refine PaW.io ?_))
local macro_rules | `(tactic| walk_at "w1") => `(tactic| (with_reducible refine PaW.nil ?_))
local macro_rules | `(tactic| walk_at "w1") => `(tactic| ((with_reducible refine PuW.ioT ?_ ?_); (focus (exact rfl))))
local macro_rules | `(tactic| walk_at "w1") => `(tactic| ((with_reducible apply PuW.io); (focus (exact rfl)); (focus (walk_at "set"))))
local macro_rules | `(tactic| walk_at "w1") => `(tactic| (with_reducible refine PuW.f ?_))
local macro_rules | `(tactic| walk_at "w1") => `(tactic| (with_reducible refine PuW.b ?_))
local macro_rules | `(tactic| walk_at "w1") => `(tactic| (with_reducible refine PuW.nil ?_))
local macro_rules | `(tactic| walk_at "w1") => `(tactic| (with_reducible refine CaW.go ?_))
local macro_rules | `(tactic| walk_at "w1") => `(tactic| ((with_reducible refine UnW.xOb ?_ ?_); (focus (repeat (first | exact unBs_nilE | refine unBs_F ?_ | refine unBs_O ?_)))))
local macro_rules | `(tactic| walk_at "w1") => `(tactic| ((with_reducible refine UnW.xB ?_ ?_); (focus (exact flat_str))))
local macro_rules | `(tactic| walk_at "w1") => `(tactic| ((with_reducible refine UnW.xB ?_ ?_); (focus (exact flat_int))))
local macro_rules | `(tactic| walk_at "w1") => `(tactic| (with_reducible refine UnW.xO ?_))
local macro_rules | `(tactic| walk_at "w1") => `(tactic| (with_reducible refine UnW.xF ?_))
local macro_rules | `(tactic| walk_at "w1") => `(tactic| ((with_reducible apply GiW.cons); (focus (exact rfl)); (focus (walk_at "set"))))
local macro_rules | `(tactic| walk_at "w1") => `(tactic| (with_reducible refine GiW.nil ?_))
local macro_rules | `(tactic| walk_at "w1") => `(tactic| (with_reducible refine EW.pow ?_))
local macro_rules | `(tactic| walk_at "w1") => `(tactic| (with_reducible refine EW.abs ?_))
local macro_rules | `(tactic| walk_at "w1") => `(tactic| ((with_reducible apply len_scr); (focus (walk_at "is"))))
local macro_rules | `(tactic| walk_at "w1") => `(tactic| ((with_reducible apply len_tup); (focus (walk_at "is"))))
local macro_rules | `(tactic| walk_at "w1") => `(tactic| ((with_reducible apply len_lst); (focus (walk_at "is"))))
local macro_rules | `(tactic| walk_at "w1") => `(tactic| ((with_reducible apply SW.aug); (focus (exact rfl))))
local macro_rules | `(tactic| walk_at "w1") => `(tactic| ((with_reducible apply SW.faug); (focus (exact rfl)); (focus (exact rfl))))
local macro_rules | `(tactic| walk_at "w1") => `(tactic| ((with_reducible apply fst4); (focus (exact rfl)); (focus (walk_at "lt")); (focus (repeat (first | exact setAt_z | exact setAt_n | apply setAt_s))); (focus (walk_at "set"))))
local macro_rules | `(tactic| walk_at "w1") => `(tactic| ((with_reducible apply lm5); (focus (exact rfl)); (focus (exact rfl)); (focus (walk_at "sz")); (focus (walk_at "set"))))
local macro_rules | `(tactic| walk_at "w1") => `(tactic| ((with_reducible apply EW.lm); (focus (exact rfl))))
local macro_rules | `(tactic| walk_at "w1") => `(tactic| ((with_reducible apply sub5); (focus (exact rfl)); (focus (first | exact ix0 rfl | exact ix1 rfl)); (focus (walk_at "set")); (focus (walk_at "set"))))
local macro_rules | `(tactic| walk_at "w1") => `(tactic| ((with_reducible apply I1W.go); (focus (walk_at "is"))))
local macro_rules | `(tactic| walk_at "w1") => `(tactic| ((with_reducible apply TW.sub); (focus (exact rfl))))
local macro_rules | `(tactic| walk_at "w1") => `(tactic| ((with_reducible apply IdxW.tF); (focus (walk_at "is")); (focus (walk_at "is")); (focus (exact rfl))))
local macro_rules | `(tactic| walk_at "w1") => `(tactic| ((with_reducible apply IdxW.tB); (focus (walk_at "is")); (focus (walk_at "is")); (focus (exact rfl))))
local macro_rules | `(tactic| walk_at "w1") => `(tactic| ((with_reducible apply IdxW.lO); (focus (walk_at "is")); (focus (walk_at "is")); (focus (exact rfl))))
local macro_rules | `(tactic| walk_at "w1") => `(tactic| ((with_reducible apply IdxW.lF); (focus (walk_at "is")); (focus (walk_at "is")); (focus (exact rfl))))
local macro_rules | `(tactic| walk_at "w1") => `(tactic| ((with_reducible apply IdxW.lB); (focus (walk_at "is")); (focus (walk_at "is")); (focus (exact rfl))))
local macro_rules | `(tactic| walk_at "w1") => `(tactic| ((with_reducible apply FldW.insF); (focus (exact rfl))))
local macro_rules | `(tactic| walk_at "w1") => `(tactic| ((with_reducible apply FldW.insB); (focus (exact rfl))))
local macro_rules | `(tactic| walk_at "w1") => `(tactic| ((with_reducible apply FldW.ob); (focus (exact rfl)); (focus (exact rfl))))
local macro_rules | `(tactic| walk_at "w1") => `(tactic| ((with_reducible apply MulW.ii); (focus (walk_at "is")); (focus (walk_at "is")); (focus omega)))
local macro_rules | `(tactic| walk_at "w1") => `(tactic| ((with_reducible apply AddW.ii); (focus (walk_at "is")); (focus (walk_at "is"))))
local macro_rules | `(tactic| walk_at "w1") => `(tactic| ((with_reducible apply IIW.go); (focus (walk_at "is")); (focus (walk_at "is"))))
local macro_rules | `(tactic| walk_at "w1") => `(tactic| ((with_reducible refine FzsW.Bx ?_ ?_); (focus (exact flat_str))))
local macro_rules | `(tactic| walk_at "w1") => `(tactic| ((with_reducible refine FzsW.Bx ?_ ?_); (focus (exact flat_int))))
local macro_rules | `(tactic| walk_at "w1") => `(tactic| (with_reducible refine FzsW.O ?_))
local macro_rules | `(tactic| walk_at "w1") => `(tactic| (with_reducible refine FzsW.F ?_))
local macro_rules | `(tactic| walk_at "w1") => `(tactic| (with_reducible refine FzsW.nil ?_))
local macro_rules | `(tactic| walk_at "w1") => `(tactic| (with_reducible refine AW.cons ?_))
local macro_rules | `(tactic| walk_at "w1") => `(tactic| (with_reducible refine AW.nil ?_))
local macro_rules | `(tactic| walk_at "w1") => `(tactic| ((with_reducible apply MvW.loc); (focus (exact rfl)); (focus (walk_at "set"))))
local macro_rules | `(tactic| walk_at "w1") => `(tactic| (with_reducible refine MvW.v ?_))
local macro_rules | `(tactic| walk_at "w1") => `(tactic| ((with_reducible apply FzW.loc); (focus (exact rfl)); (focus (walk_at "set"))))
local macro_rules | `(tactic| walk_at "w1") => `(tactic| ((with_reducible refine FzW.Bx ?_ ?_); (focus (exact flat_str))))
local macro_rules | `(tactic| walk_at "w1") => `(tactic| ((with_reducible refine FzW.Bx ?_ ?_); (focus (exact flat_int))))
local macro_rules | `(tactic| walk_at "w1") => `(tactic| (with_reducible refine FzW.ob ?_))
local macro_rules | `(tactic| walk_at "w1") => `(tactic| (with_reducible refine FzW.O ?_))
local macro_rules | `(tactic| walk_at "w1") => `(tactic| (with_reducible refine FzW.F ?_))
local macro_rules | `(tactic| walk_at "w1") => `(tactic| (with_reducible refine EW.fz ?_))
local macro_rules | `(tactic| walk_at "w1") => `(tactic| (with_reducible refine EW.mv ?_))
local macro_rules | `(tactic| walk_at "w1") => `(tactic| (with_reducible refine EW.rev ?_))
local macro_rules | `(tactic| walk_at "w1") => `(tactic| (with_reducible refine EW.tuple ?_))
local macro_rules | `(tactic| walk_at "w1") => `(tactic| (with_reducible refine EW.list ?_))
local macro_rules | `(tactic| walk_at "w1") => `(tactic| (with_reducible refine EW.sum ?_))
local macro_rules | `(tactic| walk_at "w1") => `(tactic| (with_reducible refine EW.ne ?_))
local macro_rules | `(tactic| walk_at "w1") => `(tactic| (with_reducible refine EW.eq ?_))
local macro_rules | `(tactic| walk_at "w1") => `(tactic| (with_reducible refine asI4 ?_))
local macro_rules | `(tactic| walk_at "w1") => `(tactic| (with_reducible refine OW.someI ?_))
local macro_rules | `(tactic| walk_at "w1") => `(tactic| (with_reducible refine OW.none ?_))
local macro_rules | `(tactic| walk_at "w1") => `(tactic| (with_reducible refine EW.sl ?_))
local macro_rules | `(tactic| walk_at "w1") => `(tactic| ((with_reducible apply ExtW.F); (focus (exact rfl)); (focus (walk_at "sz")); (focus (walk_at "set"))))
local macro_rules | `(tactic| walk_at "w1") => `(tactic| (with_reducible refine IW.zip ?_))
local macro_rules | `(tactic| walk_at "w1") => `(tactic| (with_reducible refine IW.enT ?_))
local macro_rules | `(tactic| walk_at "w1") => `(tactic| ((with_reducible apply SW.augSub); (focus (exact rfl))))
local macro_rules | `(tactic| walk_at "w1") => `(tactic| ((with_reducible apply SW.ext); (focus (exact rfl))))
local macro_rules | `(tactic| walk_at "w1") => `(tactic| (with_reducible refine EW.neg ?_))
local macro_rules | `(tactic| walk_at "w1") => `(tactic| (with_reducible refine EW.tupR ?_))
local macro_rules | `(tactic| walk_at "w1") => `(tactic| (with_reducible refine EW.inn ?_))
local macro_rules | `(tactic| walk_at "w1") => `(tactic| (with_reducible refine EW.min1 ?_))
local macro_rules | `(tactic| walk_at "w1") => `(tactic| (with_reducible refine EW.max1 ?_))
local macro_rules | `(tactic| walk_at "w1") => `(tactic| (with_reducible refine EW.sorted ?_))
local macro_rules | `(tactic| walk_at "w1") => `(tactic| (with_reducible refine EW.sortR ?_))
local macro_rules | `(tactic| walk_at "w1") => `(tactic| (with_reducible refine EW.notIn ?_))
local macro_rules | `(tactic| walk_at "w1") => `(tactic| (with_reducible refine CaKW.a1k1 ?_))
local macro_rules | `(tactic| walk_at "w1") => `(tactic| (with_reducible refine CaKW.a1d1 ?_))
local macro_rules | `(tactic| walk_at "w1") => `(tactic| (with_reducible refine EW.methK ?_))
local macro_rules | `(tactic| walk_at "w1") => `(tactic| (with_reducible refine EW.repr ?_))
local macro_rules | `(tactic| walk_at "w1") => `(tactic| (with_reducible refine EW.sumA ?_))
local macro_rules | `(tactic| walk_at "w1") => `(tactic| (with_reducible refine EW.isN ?_))
local macro_rules | `(tactic| walk_at "w1") => `(tactic| (with_reducible refine EW.comp1 ?_))
local macro_rules | `(tactic| walk_at "w1") => `(tactic| (with_reducible refine EW.lst ?_))
local macro_rules | `(tactic| walk_at "w1") => `(tactic| (with_reducible refine EW.tup ?_))
local macro_rules | `(tactic| walk_at "w1") => `(tactic| (with_reducible refine EW.not ?_))
local macro_rules | `(tactic| walk_at "w1") => `(tactic| (with_reducible refine EW.or ?_))
local macro_rules | `(tactic| walk_at "w1") => `(tactic| (with_reducible refine EW.and ?_))
local macro_rules | `(tactic| walk_at "w1") => `(tactic| (with_reducible refine EW.ifx ?_))
local macro_rules | `(tactic| walk_at "w1") => `(tactic| (with_reducible refine EW.fld ?_))
local macro_rules | `(tactic| walk_at "w1") => `(tactic| (with_reducible refine EW.make ?_))
local macro_rules | `(tactic| walk_at "w1") => `(tactic| (with_reducible refine EW.prop ?_))
local macro_rules | `(tactic| walk_at "w1") => `(tactic| (with_reducible refine EW.meth ?_))
local macro_rules | `(tactic| walk_at "w1") => `(tactic| (with_reducible refine EW.call ?_))
local macro_rules | `(tactic| walk_at "w1") => `(tactic| (with_reducible refine EW.len ?_))
local macro_rules | `(tactic| walk_at "w1") => `(tactic| (with_reducible refine EW.min2 ?_))
local macro_rules | `(tactic| walk_at "w1") => `(tactic| (with_reducible refine EW.max2 ?_))
local macro_rules | `(tactic| walk_at "w1") => `(tactic| (with_reducible refine EW.idx ?_))
local macro_rules | `(tactic| walk_at "w1") => `(tactic| (with_reducible refine EW.mul ?_))
local macro_rules | `(tactic| walk_at "w1") => `(tactic| (with_reducible refine EW.add ?_))
local macro_rules | `(tactic| walk_at "w1") => `(tactic| (with_reducible refine EW.sub ?_))
local macro_rules | `(tactic| walk_at "w1") => `(tactic| (with_reducible refine EW.div ?_))
local macro_rules | `(tactic| walk_at "w1") => `(tactic| (with_reducible refine EW.mod ?_))
local macro_rules | `(tactic| walk_at "w1") => `(tactic| (with_reducible refine EW.ge ?_))
local macro_rules | `(tactic| walk_at "w1") => `(tactic| (with_reducible refine EW.le ?_))
local macro_rules | `(tactic| walk_at "w1") => `(tactic| (with_reducible refine EW.lt ?_))
local macro_rules | `(tactic| walk_at "w1") => `(tactic| (with_reducible refine EW.gt ?_))
local macro_rules | `(tactic| walk_at "w1") => `(tactic| (with_reducible refine EW.strO ?_))
local macro_rules | `(tactic| walk_at "w1") => `(tactic| (with_reducible refine EW.join ?_))
local macro_rules | `(tactic| walk_at "w1") => `(tactic| (with_reducible refine EW.sort2 ?_))
local macro_rules | `(tactic| walk_at "w1") => `(tactic| (with_reducible refine EW.lzip ?_))
local macro_rules | `(tactic| walk_at "w1") => `(tactic| (with_reducible refine EW.all ?_))
local macro_rules | `(tactic| walk_at "w1") => `(tactic| (with_reducible refine EW.isi ?_))
local macro_rules | `(tactic| walk_at "w1") => `(tactic| (with_reducible refine EW.strI ?_))
local macro_rules | `(tactic| walk_at "w1") => `(tactic| (with_reducible refine EW.notN ?_))
local macro_rules | `(tactic| walk_at "w1") => `(tactic| (with_reducible refine EW.nm ?_))
local macro_rules | `(tactic| walk_at "w1") => `(tactic| (with_reducible refine EW.dK0 ?_))
local macro_rules | `(tactic| walk_at "w1") => `(tactic| (with_reducible refine EW.intB ?_))
local macro_rules | `(tactic| walk_at "w1") => `(tactic| (with_reducible refine EW.notB ?_))
local macro_rules | `(tactic| walk_at "w1") => `(tactic| (with_reducible refine EW.isB ?_))
local macro_rules | `(tactic| walk_at "w1") => `(tactic| (with_reducible refine EW.repr3 ?_))
local macro_rules | `(tactic| walk_at "w1") => `(tactic| (with_reducible refine EW.repr2 ?_))
local macro_rules | `(tactic| walk_at "w1") => `(tactic| (with_reducible refine EW.sortSet2 ?_))
local macro_rules | `(tactic| walk_at "w1") => `(tactic| (with_reducible refine EW.notInE ?_))
local macro_rules | `(tactic| walk_at "w1") => `(tactic| (with_reducible refine EW.inE ?_))
local macro_rules | `(tactic| walk_at "w1") => `(tactic| (with_reducible refine EW.ch3 ?_))
local macro_rules | `(tactic| walk_at "w1") => `(tactic| (with_reducible refine EW.ch2 ?_))
local macro_rules | `(tactic| walk_at "w1") => `(tactic| (with_reducible refine IW.enA ?_))
local macro_rules | `(tactic| walk_at "w1") => `(tactic| ((with_reducible apply TW.subX); (focus (exact rfl))))
local macro_rules | `(tactic| walk_at "w1") => `(tactic| (with_reducible refine EW.inX ?_))
local macro_rules | `(tactic| walk_at "w1") => `(tactic| (with_reducible refine EW.sortD ?_))
local macro_rules | `(tactic| walk_at "w1") => `(tactic| (with_reducible refine EW.listX ?_))
local macro_rules | `(tactic| walk_at "w1") => `(tactic| (with_reducible refine EW.dX1 ?_))
local macro_rules | `(tactic| walk_at "w1") => `(tactic| (with_reducible refine EW.dX0 ?_))
local macro_rules | `(tactic| walk_at "w1") => `(tactic| (with_reducible refine SW.par ?_))
local macro_rules | `(tactic| walk_at "w1") => `(tactic| (with_reducible refine SW.fst ?_))
local macro_rules | `(tactic| walk_at "w1") => `(tactic| (with_reducible refine SW.for ?_))
local macro_rules | `(tactic| walk_at "w1") => `(tactic| (with_reducible refine SW.expr ?_))
local macro_rules | `(tactic| walk_at "w1") => `(tactic| (with_reducible refine SW.nil ?_))
local macro_rules | `(tactic| walk_at "w1") => `(tactic| (with_reducible refine SW.asg ?_))
local macro_rules | `(tactic| walk_at "w1") => `(tactic| (with_reducible refine SW.ret ?_))
local macro_rules | `(tactic| walk_at "w1") => `(tactic| (with_reducible refine SW.ite ?_))
local macro_rules | `(tactic| walk_at "w1") => `(tactic| ((with_reducible refine SW.set ?_)))
local macro_rules | `(tactic| walk_at "w1") => `(tactic| (with_reducible refine SW.seq ?_))
local macro_rules | `(tactic| walk_at "w1") => `(tactic| (with_reducible refine VarW.kB ?_))
local macro_rules | `(tactic| walk_at "w1") => `(tactic| (with_reducible refine VarW.kF ?_))
local macro_rules | `(tactic| walk_at "w1") => `(tactic| (with_reducible refine VarW.xOb ?_))
local macro_rules | `(tactic| walk_at "w1") => `(tactic| (with_reducible refine VarW.xO ?_))
local macro_rules | `(tactic| walk_at "w1") => `(tactic| (with_reducible refine VarW.xB ?_))
local macro_rules | `(tactic| walk_at "w1") => `(tactic| (with_reducible refine VarW.xF ?_))
local macro_rules | `(tactic| walk_at "w1") => `(tactic| ((with_reducible apply EW.var); (focus (exact rfl))))
local macro_rules | `(tactic| walk_at "w1") => `(tactic| (with_reducible refine EW.tr ?_))
local macro_rules | `(tactic| walk_at "w1") => `(tactic| (with_reducible refine EW.n ?_))
local macro_rules | `(tactic| walk_at "w1") => `(tactic| (with_reducible refine EW.z ?_))
local macro_rules | `(tactic| walk_at "w1") => `(tactic| (with_reducible refine EW.c ?_))
local macro_rules | `(tactic| walk_at "wp") => `(tactic| repeat (walk_at "w1"))
local macro_rules | `(tactic| walk_at "cp") => `(tactic| (refine ⟨_, (by walk_at "set"), ?_⟩; walk_at "wp"; all_goals (first | exact ⟨rfl, rfl⟩ | exact rfl)))

/-! k21: the feed; level costs; the sums of the greatest -/
theorem FW.tk {d s m : Int} {P : PV.Tm → List PV.Tm → Prop} {X : Er → List PV.Tm → Prop} (h : 0 < m) (h2 : m < 1073741824) (k : ∀ x d' s', 0 ≤ x → x < m → P (.v .F (.int x)) [feedT d' s']) : FW den__law_take [feedT d s, .v .B (.int m)] P X := by
  refine FW.def (ρ0 := [some (feedT d s), some (.v .B (.int m)), none]) rfl ?_
  unfold d__law_take
  walk_at "wp"
  refine BoW.d (fun h0 => ?_) fun h0 => ?_
  all_goals walk_at "wp"
  all_goals exact k _ _ _ (Int.emod_nonneg _ (by omega)) (Int.emod_lt_of_pos _ h)
theorem FW.fd {ns : List Int} {k : Nat} {P : PV.Tm → List PV.Tm → Prop} {X : Er → List PV.Tm → Prop} (hk : k < 1000) (h : ∀ d s, P (feedT d s) []) : FW den__law_feed [.v .B (.scr ns), .v .B (.int k)] P X := by
  refine FW.def (ρ0 := [some (.v .B (.scr ns)), some (.v .B (.int k)), none, none]) rfl ?_
  unfold d__law_feed
  walk_at "wp"
  refine BoW.d (fun h0 => ?_) fun h0 => ?_
  · walk_at "wp"
    have hl : k < ns.length := by omega
    refine IdxW.scr (by walk_at "is") (by walk_at "is") (atN (List.getElem?_eq_getElem hl)) ?_
    walk_at "wp"
    refine ⟨_, pow18, ?_⟩
    walk_at "wp"
    exact h _ _
  · walk_at "wp"
    refine ⟨_, pow18, ?_⟩
    walk_at "wp"
    exact h _ _
theorem FW.pk {d s : Int} {xs : List D} {P : PV.Tm → List PV.Tm → Prop} {X : Er → List PV.Tm → Prop} (h0 : 0 < xs.length) (h1 : xs.length < 1073741824) (k : ∀ x d' s', x ∈ xs → P (.v .F x) [feedT d' s']) : FW den__law_pick [feedT d s, .v .F (.lst xs)] P X := by
  refine FW.def (ρ0 := [some (feedT d s), some (.v .F (.lst xs))]) rfl ?_
  unfold d__law_pick
  walk_at "wp"
  refine FW.tk (by omega) (by omega) fun x d' s' lo hi => ?_
  walk_at "wp"
  obtain ⟨n, rfl⟩ := Int.eq_ofNat_of_zero_le lo
  have hl : n < xs.length := by omega
  refine IdxW.lF (by walk_at "is") (by walk_at "is") (atN (List.getElem?_eq_getElem hl)) ?_
  walk_at "wp"
  exact k xs[n] d' s' (List.getElem_mem hl)
def SqD (a : List Int) (d : D) : Prop := d = lI a ∨ d = .tup (a.map .int)
theorem FW.lcost {a : List Int} {d : D} {l : Int} {P : PV.Tm → List PV.Tm → Prop} {X : Er → List PV.Tm → Prop} (hd : SqD a d) (hl : a.length ≤ 1000) (h : P (.v .F (.int (lc l a))) []) : FW den_level_cost [.v .B d, .v .B (.int l)] P X := by
  refine FW.def (ρ0 := [some (.v .B d), some (.v .B (.int l)), none]) rfl ?_
  unfold d_level_cost
  have hz : ((a.filter fun _ => true).map fun x => D.int (max 0 (x - l))).length ≤ sizeLine := by rw [filt_true, List.length_map, sizeLine_eq]; omega
  have he : ((a.filter fun _ => true).map fun x => D.int (max 0 (x - l))) = (a.map fun x => max 0 (x - l)).map D.int := by rw [filt_true, List.map_map]; rfl
  rcases hd with rfl | rfl
  · walk_at "wp"
    refine CpW.ints (fun _ => true) (fun x => .int (max 0 (x - l))) a rfl (fun a _ => by walk_at "cp") (fun a _ _ => by walk_at "cp") hz ?_
    rw [he]
    refine ⟨.O, a.map fun x => max 0 (x - l), _, Is.v, .inl rfl, ?_⟩
    rw [show (a.map fun x => max 0 (x - l)).sum = lc l a from rfl]
    walk_at "wp"
    exact h
  · walk_at "wp"
    refine CpW.ints (fun _ => true) (fun x => .int (max 0 (x - l))) a rfl (fun a _ => by walk_at "cp") (fun a _ _ => by walk_at "cp") hz ?_
    rw [he]
    refine ⟨.O, a.map fun x => max 0 (x - l), _, Is.v, .inl rfl, ?_⟩
    rw [show (a.map fun x => max 0 (x - l)).sum = lc l a from rfl]
    walk_at "wp"
    exact h
/-! k21: level_against -/
theorem FW.falling {a : List Int} {d : D} {P : PV.Tm → List PV.Tm → Prop} {X : Er → List PV.Tm → Prop} (hd : SqD a d) (h : P (.v .O (lI (fall a))) []) : FW den_falling [.v .B d] P X := by
  refine FW.def (ρ0 := [some (.v .B d)]) rfl ?_
  unfold d_falling
  refine SW.ret ?_
  refine EW.sortR2 ?_
  rcases hd with rfl | rfl
  · walk_at "wp"
    refine ⟨_, a, .inl (by walk_at "is"), ?_⟩
    walk_at "wp"
    exact h
  · walk_at "wp"
    refine ⟨_, a, .inr (by walk_at "is"), ?_⟩
    walk_at "wp"
    exact h
theorem sq_is {a : List Int} {d : D} {ρ : Ss} (h : SqD a d) : Is ρ (.v .B d) .B (.lst (a.map .int)) ∨ Is ρ (.v .B d) .B (.tup (a.map .int)) := by
  rcases h with rfl | rfl
  · exact .inl Is.v
  · exact .inr Is.v
theorem dups_len : ∀ (n : Nat) (l : List Int), l.length ≤ n → l.eraseDups.length ≤ l.length
  | _, [], _ => by simp
  | 0, _ :: _, h => by simp at h
  | n + 1, x :: l, h => by
    rw [List.eraseDups_cons, List.length_cons, List.length_cons]
    have h1 := List.length_filter_le (fun b => !b == x) l
    simp only [List.length_cons] at h
    have h2 := dups_len n (l.filter fun b => !b == x) (by omega)
    omega
theorem usort_lenle (ns : List Int) : (usort ns).length ≤ ns.length := by
  unfold usort
  rw [(isort_perm _).length_eq]
  exact dups_len _ _ (Nat.le_refl _)
theorem FW.against {a b : List Int} {d e : D} {P : PV.Tm → List PV.Tm → Prop} {X : Er → List PV.Tm → Prop} (hd : SqD a d) (he : SqD b e) (ha : a.length ≤ 30) (hb : b.length ≤ 30)
    (h0 : (∀ l ∈ b, lc l a ≤ lc l b) → P (.v .F .non) []) (h1 : ∀ l, lc l a > lc l b → P (.v .F (.int l)) []) : FW den_level_against [.v .B d, .v .B e] P X := by
  refine FW.def (ρ0 := [some (.v .B d), some (.v .B e), none]) rfl ?_
  unfold d_level_against
  walk_at "wp"
  refine ⟨.B, _, sq_is hd, elkBi, ?_⟩
  walk_at "wp"
  refine ⟨.B, _, sq_is he, elkBi, ?_⟩
  refine AddW.ll (by walk_at "is") (by walk_at "is") elkO elkO (by rw [List.length_map, List.length_map, sizeLine_eq]; omega) ?_
  rw [← List.map_append]
  have hu := usort_lenle (a ++ b)
  rw [List.length_append] at hu
  refine ⟨.O, a ++ b, _, Is.v, .inl rfl, by rw [List.length_append]; omega, by omega, ?_⟩
  walk_at "wp"
  refine ForW.data (fun pre ρ => ∃ v, ρ = [some (.v .B d), some (.v .B e), v] ∧ ∀ l ∈ pre, lc l a ≤ lc l b) (usort (a ++ b)) ⟨_, rfl, fun l hl => absurd hl List.not_mem_nil⟩ ?_ ?_
  · rintro pre x suf ρ hp ⟨v, rfl, hI⟩
    walk_at "wp"
    refine FW.lcost hd (by omega) ?_
    walk_at "wp"
    refine FW.lcost he (by omega) ?_
    walk_at "wp"
    refine BoW.d (fun hgt => ?_) fun hgt => ?_
    · walk_at "wp"
      exact h1 x hgt
    · walk_at "wp"
      refine ⟨_, rfl, fun l hl => ?_⟩
      rcases List.mem_append.mp hl with hl | hl
      · exact hI l hl
      · rw [List.mem_singleton.mp hl]; omega
  · rintro ρ ⟨v, rfl, hI⟩
    walk_at "wp"
    exact h0 fun l hl => hI l (usort_mem.mpr (List.mem_append_right _ hl))
/-! k20: the places of the next transfer -/
theorem at0_get {xs : List Int} {k : Nat} (h : k < xs.length) : (xs.map D.int)[k]? = some (.int (at0 xs k)) := by
  rw [List.getElem?_map, List.getElem?_eq_getElem h]
  unfold at0
  rw [List.getD_eq_getElem?_getD, List.getElem?_eq_getElem h]
  rfl
theorem FW.places {w f : List Int} {P : PV.Tm → List PV.Tm → Prop} {X : Er → List PV.Tm → Prop} (hl : w.length = f.length) (hs : w.sum = f.sum) (hd : Dom w f) (hn : f ≠ w) (hb : f.length ≤ 100)
    (h : ∀ p q : Nat, p < f.length → q < p → at0 f p < at0 w p → (∀ i, i < p → at0 w i ≤ at0 f i) → at0 w q < at0 f q → P (.v .F (.tup [.int (q : Int), .int (p : Int)])) []) :
    FW den_next_places [.v .B (lI w), .v .B (lI f)] P X := by
  obtain ⟨p, hp1, hp2, hp3, hp4⟩ := low_ex hl hs hn
  have hne := high_ne hl hd hp2 hp3
  refine FW.def (ρ0 := [some (.v .B (lI w)), some (.v .B (lI f)), none, none]) rfl ?_
  unfold d_next_places
  walk_at "wp"
  rw [List.length_map]
  refine R1W.go (by omega) ?_
  rw [Int.toNat_natCast]
  unfold rngL
  refine CpW.map (inj := fun i : Nat => PV.Tm.v .F (.int (0 + (i : Int)))) (fun k => decide (at0 f k < at0 w k)) (fun i => .int (i : Int)) (List.range f.length) (fun _ => rfl) rfl (fun i hi => ?_) (fun i hi _ => ?_) ?_ ?_
  · rw [List.mem_range] at hi
    rw [Int.zero_add]
    refine ⟨_, by walk_at "set", ?_⟩
    walk_at "wp"
    refine IdxW.lB (by walk_at "is") (by walk_at "is") (atN (at0_get hi)) ?_
    walk_at "wp"
    refine IdxW.lB (by walk_at "is") (by walk_at "is") (atN (at0_get (xs := w) (by omega))) ?_
    walk_at "wp"
    all_goals (first | exact ⟨rfl, rfl⟩ | exact rfl)
  · rw [Int.zero_add]
    walk_at "cp"
  · rw [List.length_map, sizeLine_eq]
    have := List.length_filter_le (fun k => decide (at0 f k < at0 w k)) (List.range f.length)
    rw [List.length_range] at this
    omega
  walk_at "wp"
  refine IdxW.lO (d := .int (p : Int)) (by walk_at "is") (by walk_at "is") (show atI _ ((0 : Nat) : Int) = _ from atN (by rw [List.getElem?_map, ← List.head?_eq_getElem?, hp1]; rfl)) ?_
  walk_at "wp"
  rw [Int.toNat_natCast]
  unfold rngL
  refine CpW.map (inj := fun i : Nat => PV.Tm.v .F (.int (0 + (i : Int)))) (fun k => decide (at0 f k > at0 w k)) (fun i => .int (i : Int)) (List.range p) (fun _ => rfl) rfl (fun i hi => ?_) (fun i hi _ => ?_) ?_ ?_
  · rw [List.mem_range] at hi
    rw [Int.zero_add]
    refine ⟨_, by walk_at "set", ?_⟩
    walk_at "wp"
    refine IdxW.lB (by walk_at "is") (by walk_at "is") (atN (at0_get (xs := f) (by omega))) ?_
    walk_at "wp"
    refine IdxW.lB (by walk_at "is") (by walk_at "is") (atN (at0_get (xs := w) (by omega))) ?_
    walk_at "wp"
    all_goals (first | exact ⟨rfl, rfl⟩ | exact rfl)
  · rw [Int.zero_add]
    walk_at "cp"
  · rw [List.length_map, sizeLine_eq]
    have := List.length_filter_le (fun k => decide (at0 f k > at0 w k)) (List.range p)
    rw [List.length_range] at this
    omega
  rw [show (((List.range p).filter fun k => decide (at0 f k > at0 w k)).map fun i : Nat => D.int (i : Int)) = (((List.range p).filter fun k => decide (at0 f k > at0 w k)).map fun k : Nat => (k : Int)).map D.int from by rw [List.map_map]; rfl]
  obtain ⟨m, hm⟩ : ∃ m, ((((List.range p).filter fun k => decide (at0 f k > at0 w k)).map fun k : Nat => (k : Int))).max? = some m := by
    cases e : ((((List.range p).filter fun k => decide (at0 f k > at0 w k)).map fun k : Nat => (k : Int))).max? with
    | none => exact absurd (List.map_eq_nil_iff.mp (List.max?_eq_none_iff.mp e)) hne
    | some m => exact ⟨m, rfl⟩
  have hmem := List.max?_mem hm
  obtain ⟨q, hq, rfl⟩ := List.mem_map.mp hmem
  obtain ⟨hq1, hq2⟩ := List.mem_filter.mp hq
  rw [List.mem_range] at hq1
  refine ⟨_, _, _, Is.v, hm, ?_⟩
  walk_at "wp"
  exact h p q hp2 hq1 hp3 hp4 (of_decide_eq_true hq2)
/-! k20: transfers -/
abbrev sD (s : Int × Int × Int) : D := .tup [.int s.1, .int s.2.1, .int s.2.2]
structure StepR (f f' : List Int) (s : Int × Int × Int) : Prop where
  pos : 1 ≤ s.2.2
  room : s.2.1 + s.2.2 ≤ s.1 - s.2.2
  mh : s.1 ∈ f
  ml : s.2.1 ∈ f
  perm : (s.1 :: s.2.1 :: f').Perm ((s.1 - s.2.2) :: (s.2.1 + s.2.2) :: f)
/-- the steps lead from b to g -/
def Leads (b : List Int) (ss : List (Int × Int × Int)) (g : List Int) : Prop := ∃ fs : Nat → List Int, (fs 0).Perm b ∧ (∀ i s, ss[i]? = some s → StepR (fs i) (fs (i + 1)) s) ∧ fs ss.length = g
theorem Leads.nil {b g : List Int} (h : g.Perm b) : Leads b [] g := ⟨fun _ => g, h, fun i s e => by simp at e, rfl⟩
theorem Leads.snoc {b f g : List Int} {ss : List (Int × Int × Int)} {s : Int × Int × Int} (h : Leads b ss f) (hs : StepR f g s) : Leads b (ss ++ [s]) g := by
  obtain ⟨fs, h0, h1, h2⟩ := h
  refine ⟨fun i => if i ≤ ss.length then fs i else g, ?_, fun i t e => ?_, ?_⟩
  · show (if 0 ≤ ss.length then fs 0 else g).Perm b
    rw [if_pos (Nat.zero_le _)]
    exact h0
  · show StepR (if i ≤ ss.length then fs i else g) (if i + 1 ≤ ss.length then fs (i + 1) else g) t
    by_cases hi : i < ss.length
    · rw [List.getElem?_append_left hi] at e
      rw [if_pos (by omega), if_pos (by omega)]
      exact h1 i t e
    · have e2 : i = ss.length := by
        have := (List.getElem?_eq_some_iff.mp e).1
        rw [List.length_append, List.length_singleton] at this
        omega
      subst e2
      simp only [List.getElem?_append_right (Nat.le_refl _), Nat.sub_self, List.getElem?_cons_zero, Option.some.injEq] at e
      subst e
      rw [if_pos (Nat.le_refl _), if_neg (by omega), h2]
      exact hs
  · show (if (ss ++ [s]).length ≤ ss.length then fs (ss ++ [s]).length else g) = g
    rw [if_neg (by rw [List.length_append, List.length_singleton]; omega)]
def trBody : Sm := (sSeq (sAsg (tgTup (tgsCons (tgN 6) (tgsCons (tgN 7) tgsNil))) (eCall den_next_places [.b, .b] (gCons (eVar 3) (gCons (eVar 4) gNil))))
    (sSeq (sSet 8 (eMin2 (eSub (eIdx (eVar 4) (eVar 6)) (eIdx (eVar 3) (eVar 6))) (eSub (eIdx (eVar 3) (eVar 7)) (eIdx (eVar 4) (eVar 7)))))
    (sSeq (sExpr (eLm opApp 5 (gCons (eTup (gCons (eIdx (eVar 4) (eVar 6)) (gCons (eIdx (eVar 4) (eVar 7)) (gCons (eF (eVar 8)) gNil)))) gNil)))
    (sSeq (sAugSub 4 (eVar 6) (fun i j => i - j) (eVar 8))
    (sAugSub 4 (eVar 7) (fun i j => i + j) (eVar 8))))))
def trLoop : Sm := sSeq (sSet 5 (eLst gNil)) (sSeq (sWhile 60 (eNe (eVar 4) (eVar 3)) trBody) (sRet (eM (eVar 5))))
def trRest : Sm := (sSeq (sSet 2 (eCall den_level_against [.b, .b] (gCons (eVar 0) (gCons (eVar 1) gNil))))
    (sSeq (sIf (eNotN (eVar 2) eN)
    (sRaise 2 (eF (eVar 2)))
    sNil)
    (sSeq (sPar [3, 4] (gCons (eCall den_falling [.b] (gCons (eVar 0) gNil)) (gCons (eCall den_falling [.b] (gCons (eVar 1) gNil)) gNil)))
    trLoop)))
theorem transfers_eq : d_transfers = sSeq (sIf (eOr (eNe (eLen (eVar 0)) (eLen (eVar 1))) (eNe (eSumA (eVar 0)) (eSumA (eVar 1)))) (sRaise0 1) sNil) trRest := rfl
theorem ixN_of {n k : Nat} (h : k < n) : ixN n (k : Int) = some k := by
  unfold ixN
  rw [if_pos (by omega), if_pos (by omega), Int.toNat_natCast]
theorem map_set {xs : List Int} {i : Nat} {v : Int} : (xs.map D.int).set i (.int v) = (xs.set i v).map D.int := by rw [List.map_set]
/-- a turn -/
theorem trBody_ok {x0 x1 x2 : Option PV.Tm} {w f : List Int} {ss : List D} {v6 v7 v8 : Option PV.Tm} {N : Ss → Prop} {R : PV.Tm → Ss → Prop} {B C : Ss → Prop} {X : PX} (hl : w.length = f.length) (hs : w.sum = f.sum) (hd : Dom w f) (hw : w.Pairwise (· ≥ ·)) (hn : f ≠ w) (hb : f.length ≤ 100) (hz : ss.length ≤ 100)
    (h : ∀ f' h l m v6 v7 v8, Step w f f' h l m → N [x0, x1, x2, some (.v .O (lI w)), some (.v .O (lI f')), some (.v .O (.lst (ss ++ [sD (h, l, m)]))), v6, v7, v8]) :
    SW trBody [x0, x1, x2, some (.v .O (lI w)), some (.v .O (lI f)), some (.v .O (.lst ss)), v6, v7, v8] N R B C X := by
  unfold trBody
  walk_at "wp"
  refine FW.places hl hs hd hn hb fun p q hp hq h1 h2 h3 => ?_
  walk_at "wp"
  refine IdxW.lO (by walk_at "is") (by walk_at "is") (atN (at0_get (xs := f) (k := q) (by omega))) ?_
  walk_at "wp"
  refine IdxW.lO (by walk_at "is") (by walk_at "is") (atN (at0_get (xs := w) (k := q) (by omega))) ?_
  walk_at "wp"
  refine IdxW.lO (by walk_at "is") (by walk_at "is") (atN (at0_get (xs := w) (k := p) (by omega))) ?_
  walk_at "wp"
  refine IdxW.lO (by walk_at "is") (by walk_at "is") (atN (at0_get (xs := f) (k := p) (by omega))) ?_
  walk_at "wp"
  refine IdxW.lO (by walk_at "is") (by walk_at "is") (atN (at0_get (xs := f) (k := q) (by omega))) ?_
  walk_at "wp"
  refine IdxW.lO (by walk_at "is") (by walk_at "is") (atN (at0_get (xs := f) (k := p) (by omega))) ?_
  walk_at "wp"
  have hq' : q < f.length := by omega
  refine ⟨_, _, _, _, rfl, rfl, atN (at0_get hq'), ?_⟩
  walk_at "wp"
  refine ⟨_, _, _, _, rfl, rfl, ixN_of (by rw [List.length_map]; exact hq'), _, rfl, ?_⟩
  rw [map_set]
  have hp' : p < (f.set q (at0 f q - min (at0 f q - at0 w q) (at0 w p - at0 f p))).length := by rw [List.length_set]; exact hp
  walk_at "wp"
  refine ⟨_, _, _, _, rfl, rfl, atN (at0_get hp'), ?_⟩
  walk_at "wp"
  refine ⟨_, _, _, _, rfl, rfl, ixN_of (by rw [List.length_map]; exact hp'), _, rfl, ?_⟩
  rw [map_set, at0_set hq', if_neg (by omega)]
  exact h _ _ _ _ _ _ _ (step_ok hl hs hd hw hp hq h1 h2 h3 rfl)
/-! k20: transfers, the loop and the whole -/
theorem Step.r {w f f' : List Int} {h l m : Int} (s : Step w f f' h l m) : StepR f f' (h, l, m) := ⟨s.pos, s.room, s.mh, s.ml, s.perm⟩
theorem trLoop_ok {x0 x1 x2 v5 v6 v7 v8 : Option PV.Tm} {a b : List Int} {N : Ss → Prop} {R : PV.Tm → Ss → Prop} {B C : Ss → Prop} {X : PX} (hl : a.length = b.length) (hs : a.sum = b.sum) (hd : NoMore a b) (la : a.length ≤ 30)
    (h : ∀ ss ρ, Leads b ss (fall a) → ss.length ≤ a.length → R (.v .O (.lst (ss.map sD))) ρ) :
    SW trLoop [x0, x1, x2, some (.v .O (lI (fall a))), some (.v .O (lI (fall b))), v5, v6, v7, v8] N R B C X := by
  have lA : (fall a).length = a.length := (fall_perm a).length_eq
  have lB : (fall b).length = b.length := (fall_perm b).length_eq
  have sA : (fall a).sum = a.sum := sum_perm (fall_perm a)
  have sB : (fall b).sum = b.sum := sum_perm (fall_perm b)
  unfold trLoop
  refine SW.seq ?_
  walk_at "wp"
  refine SW.while (fun m ρ => ∃ f ss v6 v7 v8, ρ = [x0, x1, x2, some (.v .O (lI (fall a))), some (.v .O (lI f)), some (.v .O (.lst (ss.map sD))), v6, v7, v8] ∧ f.length = a.length ∧ f.sum = a.sum ∧ Dom (fall a) f ∧ Leads b ss f ∧ ss.length + cnt f (fall a) ≤ a.length ∧ cnt f (fall a) = m) (cnt (fall b) (fall a)) ?_ ?_ ?_
  · have := cnt_le (fall b) (fall a)
    omega
  · refine ⟨fall b, [], _, _, _, rfl, by omega, by omega, fun k hk => hd.le hl hs k (by omega), Leads.nil (fall_perm b), ?_, rfl⟩
    have := cnt_le (fall b) (fall a)
    simp only [List.length_nil]
    omega
  · rintro m ρ ⟨f, ss, v6, v7, v8, rfl, hf, hfs, hfd, hL, hc, rfl⟩
    walk_at "wp"
    refine ⟨_, _, _, _, _, by walk_at "is", by walk_at "is", neD_lints _ _, ?_⟩
    refine BoW.d (fun hne => ?_) fun hne => ?_
    · refine trBody_ok (by omega) (by omega) hfd (fall_down a) hne (by omega) (by rw [List.length_map]; omega) fun f' h l m v6 v7 v8 st => ?_
      have h6 := st.less
      refine ⟨_, h6, f', ss ++ [(h, l, m)], v6, v7, v8, ?_, by rw [st.len]; omega, by rw [st.sum]; omega, st.dom, hL.snoc st.r, ?_, rfl⟩
      · rw [List.map_append]; rfl
      · rw [List.length_append, List.length_singleton]; omega
    · have e : f = fall a := Classical.not_not.mp hne
      subst e
      walk_at "wp"
      exact h ss _ hL (by omega)
theorem FW.transfers {a b : List Int} {da db : D} {P : PV.Tm → List PV.Tm → Prop} {X : Er → List PV.Tm → Prop} (ha : SqD a da) (hb : SqD b db) (la : a.length ≤ 30) (lb : b.length ≤ 30)
    (h1 : (a.length ≠ b.length ∨ a.sum ≠ b.sum) → X ⟨1, []⟩ []) (h2 : ∀ l, a.length = b.length → a.sum = b.sum → lc l a > lc l b → X ⟨2, [.int l]⟩ [])
    (h3 : ∀ ss, a.length = b.length → a.sum = b.sum → NoMore a b → Leads b ss (fall a) → ss.length ≤ a.length → P (.v .O (.lst (ss.map sD))) []) : FW den_transfers [.v .B da, .v .B db] P X := by
  refine FW.def (ρ0 := [some (.v .B da), some (.v .B db), none, none, none, none, none, none, none]) rfl ?_
  rw [transfers_eq]
  have rest : ∀ {N : Ss → Prop} {B C : Ss → Prop}, a.length = b.length → a.sum = b.sum → SW trRest [some (.v .B da), some (.v .B db), none, none, none, none, none, none, none] N (fun t ρ => UnW t fun t' => GiW ρ [] fun us => P t' us) B C (fun e ρ => GiW ρ [] fun us => X e us) := fun el es => by
    unfold trRest
    walk_at "wp"
    refine FW.against ha hb la lb (fun hle => ?_) fun l hgt => ?_
    · have hN : NoMore a b := NoMore.of_lc el hle
      walk_at "wp"
      refine ⟨_, _, _, Is.v, Is.v, ?_⟩
      refine BoW.ff ?_
      walk_at "wp"
      refine FW.falling ha ?_
      walk_at "wp"
      refine FW.falling hb ?_
      walk_at "wp"
      refine trLoop_ok el es hN la fun ss ρ hL hz => ?_
      walk_at "wp"
      exact h3 ss el es hN hL hz
    · walk_at "wp"
      refine ⟨_, _, _, Is.v, Is.v, ?_⟩
      refine BoW.tt ?_
      refine SW.raise ?_
      walk_at "wp"
      refine ⟨_, rfl, ?_⟩
      walk_at "wp"
      exact h2 l el es hgt
  have ha' := ha
  have hb' := hb
  rcases ha' with rfl | rfl <;> rcases hb' with rfl | rfl
  all_goals
    refine SW.seq ?_
    refine SW.ite ?_
    walk_at "wp"
    refine ⟨_, _, _, _, _, Is.v, Is.v, neD_int _ _, ?_⟩
    rw [List.length_map, List.length_map]
    refine BoW.d (fun hne => ?_) fun heq => ?_
    · refine BoW.tt ?_
      refine SW.raise0 ?_
      walk_at "wp"
      exact h1 (.inl (by omega))
    · walk_at "wp"
      refine ⟨_, a, _, Is.v, (by first | exact .inl rfl | exact .inr rfl), ?_⟩
      walk_at "wp"
      refine ⟨_, b, _, Is.v, (by first | exact .inl rfl | exact .inr rfl), ?_⟩
      refine ⟨_, _, _, _, _, Is.v, Is.v, neD_int _ _, ?_⟩
      refine BoW.d (fun hne => ?_) fun heq2 => ?_
      · refine SW.raise0 ?_
        walk_at "wp"
        exact h1 (.inr hne)
      · walk_at "wp"
        exact rest (by omega) (by omega)
/-! k21: drawn lists of ages -/
theorem pow6 : powI 10 6 = some 1000000 := by decide +kernel
def agRest : Sm := (sRet (eComp (itR1 (eVar 1)) [3] (tgN 3) eTrue (eCall den__law_take [.io, .b] (gCons (eVar 0) (gCons (eAdd (eVar 2) (eC (.int 1))) gNil)))))
theorem ages_eq : d__law_ages = sSeq (sSet 2 (eCall den__law_pick [.io, .f] (gCons (eVar 0) (gCons (eF (eLst (gCons (eC (.int 2)) (gCons (eC (.int 5)) (gCons (eC (.int 12)) (gCons (ePow (eC (.int 10)) (eC (.int 6))) gNil)))))) gNil)))) agRest := rfl
theorem FW.ages {d s : Int} {n : Nat} {P : PV.Tm → List PV.Tm → Prop} {X : Er → List PV.Tm → Prop} (hn : n ≤ 100)
    (h : ∀ (a : List Int) (d' s' : Int), a.length = n → (∀ x ∈ a, 0 ≤ x ∧ x ≤ 1000000) → P (.v .O (lI a)) [feedT d' s']) : FW den__law_ages [feedT d s, .v .B (.int (n : Int))] P X := by
  refine FW.def (ρ0 := [some (feedT d s), some (.v .B (.int (n : Int))), none, none]) rfl ?_
  rw [ages_eq]
  refine SW.seq ?_
  walk_at "wp"
  refine ⟨_, pow6, ?_⟩
  walk_at "wp"
  refine FW.pk (by simp) (by simp) fun x d s hx => ?_
  obtain ⟨m, rfl, hm0, hm1⟩ : ∃ m : Int, x = .int m ∧ 0 ≤ m ∧ m ≤ 1000000 := by
    simp only [List.mem_cons, List.not_mem_nil, or_false] at hx
    rcases hx with rfl | rfl | rfl | rfl
    · exact ⟨2, rfl, by omega, by omega⟩
    · exact ⟨5, rfl, by omega, by omega⟩
    · exact ⟨12, rfl, by omega, by omega⟩
    · exact ⟨1000000, rfl, by omega, by omega⟩
  walk_at "wp"
  unfold agRest
  refine SW.ret ?_
  refine EW.comp ?_
  walk_at "wp"
  rw [Int.toNat_natCast]
  unfold rngL
  refine CoW.go (inj := fun i : Nat => PV.Tm.v .F (.int (0 + (i : Int)))) (fun p es ρ => ∃ (a : List Int) (d s : Int), ρ = [some (feedT d s), some (.v .B (.int (n : Int))), some (.v .F (.int m)), none] ∧ es = a.map .int ∧ a.length = p.length ∧ ∀ x ∈ a, 0 ≤ x ∧ x ≤ 1000000) (List.range n) ⟨_, wip1 (by walk_at "set"), [], d, s, rfl, rfl, rfl, fun x hx => absurd hx List.not_mem_nil⟩ ?_ ?_
  · rintro p x q es ρ hp ⟨a, d, s, rfl, rfl, h1, h2⟩
    walk_at "wp"
    refine FW.tk (by omega) (by omega) fun r d s lo hi => ?_
    walk_at "wp"
    refine ⟨_, wip1 (by walk_at "set"), a ++ [r], d, s, rfl, by rw [List.map_append]; rfl, by rw [List.length_append, List.length_append, h1]; rfl, fun y hy => ?_⟩
    rcases List.mem_append.mp hy with hy | hy
    · exact h2 y hy
    · rw [List.mem_singleton.mp hy]; omega
  rintro es ρ ⟨a, d, s, rfl, rfl, h1, h2⟩
  rw [List.length_range] at h1
  refine ⟨by rw [List.length_map, sizeLine_eq]; omega, _, rfl, ?_⟩
  walk_at "wp"
  exact h a _ _ h1 h2
/-! k21: a calmer list -/
theorem eraseIdx_perm : ∀ {xs : List Int} {k : Nat} (h : k < xs.length), xs.Perm (xs[k] :: xs.eraseIdx k)
  | [], _, h => by simp at h
  | x :: xs, 0, _ => by simp
  | x :: xs, k + 1, h => by
    have ih := eraseIdx_perm (xs := xs) (k := k) (by simpa using h)
    simp only [List.getElem_cons_succ, List.eraseIdx_cons_succ]
    exact (List.Perm.cons x ih).trans (List.Perm.swap _ _ _)
def clTurn : Sm := (sSeq (sSet 2 (eSorted (eVar 2)))
    (sSeq (sPar [4, 5] (gCons (eLm opPopAt 2 (gCons (eCall den__law_take [.io, .b] (gCons (eVar 0) (gCons (eSub (eLen (eVar 2)) (eC (.int 1))) gNil))) gNil)) (gCons (eLm opPop 2 gNil) gNil)))
    (sSeq (sSet 6 (eCall den__law_take [.io, .b] (gCons (eVar 0) (gCons (eAdd (eDiv (eSub (eVar 5) (eVar 4)) (eC (.int 2))) (eC (.int 1))) gNil))))
    (sSet 2 (eAdd (eVar 2) (eLst (gCons (eSub (eVar 5) (eVar 6)) (gCons (eAdd (eVar 4) (eVar 6)) gNil))))))))
def clRest : Sm := (sRet (eStep (eVar 2) (eCall den__law_pick [.io, .f] (gCons (eVar 0) (gCons (eF (eLst (gCons (eC (.int 1)) (gCons (eNeg (eC (.int 1))) gNil)))) gNil)))))
theorem calmer_eq : d__law_calmer = sSeq (sSet 2 (eList (eVar 1)))
    (sSeq (sFor (itR1 (eIf (eGt (eLen (eVar 2)) (eC (.int 1))) (eCall den__law_take [.io, .b] (gCons (eVar 0) (gCons (eC (.int 5)) gNil))) (eC (.int 0)))) (tgN 3) clTurn) clRest) := rfl
theorem calm_parts {p : List Int} (hp : p.Pairwise (· ≤ ·)) {k : Nat} (hk : k + 1 < p.length) : ∃ (low high : Int) (r : List Int), p[k]? = some low ∧ p.eraseIdx k = r ++ [high] ∧ p.Perm (low :: high :: r) ∧ low ≤ high := by
  have hkl : k < p.length := by omega
  have hql : (p.eraseIdx k).length = p.length - 1 := List.length_eraseIdx_of_lt hkl
  have hne : p.eraseIdx k ≠ [] := fun e => by rw [e] at hql; simp at hql; omega
  have e1 : p.eraseIdx k = (p.eraseIdx k).dropLast ++ [(p.eraseIdx k).getLast hne] := (List.dropLast_concat_getLast hne).symm
  refine ⟨p[k], (p.eraseIdx k).getLast hne, (p.eraseIdx k).dropLast, List.getElem?_eq_getElem hkl, e1, ?_, ?_⟩
  · refine (eraseIdx_perm hkl).trans (List.Perm.cons _ ?_)
    have e2 : (p.eraseIdx k).Perm ((p.eraseIdx k).dropLast ++ [(p.eraseIdx k).getLast hne]) := by rw [← e1]
    exact e2.trans List.perm_append_comm
  · rw [List.getLast_eq_getElem, List.getElem_eraseIdx_of_ge (by omega) (by omega)]
    exact List.pairwise_iff_getElem.mp hp k _ hkl (by omega) (by omega)
theorem pop_at (T : List Int) (k : Nat) (h : k < T.length) (hz : T.length ≤ 100000) : opPopAt (T.map .int) [.int (k : Int)] = some (.int T[k], (T.eraseIdx k).map .int) := by
  have e : seqIndex? (k : Int) (T.map D.int).length = some k := by
    have := seqIndex_of (k := (k : Int)) (n := (T.map D.int).length) (by omega) (by simp; omega)
    simpa using this
  have e2 : (T.map D.int)[k]? = some (.int T[k]) := by rw [List.getElem?_map, List.getElem?_eq_getElem h]; rfl
  have e3 : (-(2 ^ 63) ≤ (k : Int) ∧ (k : Int) < 2 ^ 63) := by omega
  unfold opPopAt
  simp only [e, e2]
  rw [if_pos e3, PV.erase_map]
theorem pop_end (q : List Int) (x : Int) : opPop ((q ++ [x]).map .int) [] = some (.int x, q.map .int) := by
  unfold opPop
  have e1 : ((q ++ [x]).map D.int)[((q ++ [x]).map D.int).length - 1]? = some (.int x) := by
    rw [List.map_append, List.length_append, List.getElem?_append_right (by simp)]
    simp
  rw [e1]
  show some (D.int x, ((q ++ [x]).map D.int).dropLast) = _
  rw [List.map_append]
  simp
/-- a turn -/
theorem clTurn_ok {x1 v3 v4 v5 v6 : Option PV.Tm} {g : List Int} {d s : Int} {N : Ss → Prop} {R : PV.Tm → Ss → Prop} {B C : Ss → Prop} {X : PX} (h2 : 2 ≤ g.length) (hl : g.length ≤ 30) (hb : ∀ x ∈ g, 0 ≤ x ∧ x ≤ 1000000)
    (h : ∀ (g' : List Int) (d s : Int) (v4 v5 v6 : Option PV.Tm), g'.length = g.length → g'.sum = g.sum → (∀ x ∈ g', 0 ≤ x ∧ x ≤ 1000000) → (∀ l, lc l g' ≤ lc l g) → N [some (feedT d s), x1, some (.v .O (lI g')), v3, v4, v5, v6]) :
    SW clTurn [some (feedT d s), x1, some (.v .O (lI g)), v3, v4, v5, v6] N R B C X := by
  have il : (isort g).length = g.length := (isort_perm g).length_eq
  unfold clTurn
  walk_at "wp"
  refine ⟨.O, g, _, by walk_at "is", .inl rfl, ?_⟩
  walk_at "wp"
  rw [List.length_map, il]
  refine FW.tk (by omega) (by omega) fun r d s lo hi => ?_
  obtain ⟨k, rfl⟩ := Int.eq_ofNat_of_zero_le lo
  obtain ⟨low, high, q, e1, e2, e3, e4⟩ := calm_parts (isort_up g) (k := k) (by omega)
  have hkl : k < (isort g).length := by omega
  have e5 : (isort g)[k] = low := by rw [List.getElem?_eq_getElem hkl] at e1; exact Option.some.inj e1
  have pe := pop_at (isort g) k hkl (by omega)
  rw [e5, e2] at pe
  have ql : q.length + 2 = g.length := by rw [← il, e3.length_eq]; rfl
  have lb : 0 ≤ low ∧ low ≤ 1000000 := hb low ((isort_perm g).mem_iff.mp (e3.mem_iff.mpr List.mem_cons_self))
  have hbb : 0 ≤ high ∧ high ≤ 1000000 := hb high ((isort_perm g).mem_iff.mp (e3.mem_iff.mpr (List.mem_cons_of_mem _ List.mem_cons_self)))
  have hqb : ∀ x ∈ q, 0 ≤ x ∧ x ≤ 1000000 := fun x hx => hb x ((isort_perm g).mem_iff.mp (e3.mem_iff.mpr (List.mem_cons_of_mem _ (List.mem_cons_of_mem _ hx))))
  have hsum : g.sum = low + (high + q.sum) := by rw [← sum_perm (isort_perm g), sum_perm e3, List.sum_cons, List.sum_cons]
  walk_at "wp"
  refine lm5 (xs := (isort g).map .int) (xs' := (q ++ [high]).map .int) (x := .int low) rfl pe (by rw [List.length_map, List.length_append, sizeLine_eq]; show _ + 1 ≤ _; omega) rfl ?_
  walk_at "wp"
  refine lm5 (xs := (q ++ [high]).map .int) (xs' := q.map .int) (x := .int high) rfl (pop_end q high) (by rw [List.length_map, sizeLine_eq]; omega) rfl ?_
  walk_at "wp"
  refine FW.tk (by omega) (by omega) fun r d s lo hi => ?_
  walk_at "wp"
  refine AddW.ll (by walk_at "is") (by walk_at "is") elkO elkO (by rw [List.length_map, sizeLine_eq]; show _ + 2 ≤ _; omega) ?_
  walk_at "wp"
  refine (show N [some (feedT d s), x1, some (.v .O (.lst (List.map D.int q ++ [.int (high - r), .int (low + r)]))), v3, some (.v .F (.int low)), some (.v .F (.int high)), some (.v .F (.int r))] from ?_)
  have e8 : (D.lst (List.map D.int q ++ [.int (high - r), .int (low + r)])) = lI (q ++ [high - r, low + r]) := by unfold lI; rw [List.map_append]; rfl
  rw [e8]
  refine h (q ++ [high - r, low + r]) _ _ _ _ _ (by rw [List.length_append]; exact ql) (by rw [List.sum_append]; simp only [List.sum_cons, List.sum_nil]; omega) (fun x hx => ?_) fun l => ?_
  rotate_left
  · rw [← lc_perm (isort_perm g), lc_perm e3, lc_perm (List.perm_append_comm (l₁ := q) (l₂ := [high - r, low + r]))]
    simp only [List.cons_append, List.nil_append, lc_cons]
    omega
  rcases List.mem_append.mp hx with hx | hx
  · exact hqb x hx
  · simp only [List.mem_cons, List.not_mem_nil, or_false] at hx
    rcases hx with rfl | rfl <;> omega
theorem FW.calmer {a : List Int} {d s : Int} {P : PV.Tm → List PV.Tm → Prop} {X : Er → List PV.Tm → Prop} (la : a.length ≤ 30) (ha : ∀ x ∈ a, 0 ≤ x ∧ x ≤ 1000000)
    (h : ∀ (b : List Int) (d' s' : Int), b.length = a.length → b.sum = a.sum → (∀ x ∈ b, 0 ≤ x ∧ x ≤ 1000000) → (∀ l, lc l b ≤ lc l a) → P (.v .O (lI b)) [feedT d' s']) : FW den__law_calmer [feedT d s, .v .B (lI a)] P X := by
  refine FW.def (ρ0 := [some (feedT d s), some (.v .B (lI a)), none, none, none, none, none]) rfl ?_
  rw [calmer_eq]
  have rest : ∀ {N : Ss → Prop} {B C : Ss → Prop} {X' : PX} (g : List Int) (d s : Int) (v3 v4 v5 v6 : Option PV.Tm), g.length = a.length → g.sum = a.sum → (∀ x ∈ g, 0 ≤ x ∧ x ≤ 1000000) → (∀ l, lc l g ≤ lc l a) →
      SW clRest [some (feedT d s), some (.v .B (lI a)), some (.v .O (lI g)), v3, v4, v5, v6] N (fun t ρ => UnW t fun t' => GiW ρ [0] fun us => P t' us) B C X' := fun g d s v3 v4 v5 v6 h1 h2 h3 h4 => by
    unfold clRest
    refine SW.ret ?_
    refine EW.step ?_
    walk_at "wp"
    refine FW.pk (by simp) (by simp) fun x d s hx => ?_
    obtain ⟨e, rfl, he⟩ : ∃ e : Int, x = .int e ∧ (e = 1 ∨ e = -1) := by
      simp only [List.mem_cons, List.not_mem_nil, or_false] at hx
      rcases hx with rfl | rfl
      · exact ⟨1, rfl, .inl rfl⟩
      · exact ⟨-1, rfl, .inr rfl⟩
    walk_at "wp"
    refine ⟨_, _, g.map .int, e, by walk_at "is", by walk_at "is", elkO, he, ?_⟩
    rcases he with rfl | rfl
    · rw [if_pos rfl]
      walk_at "wp"
      exact h g _ _ h1 h2 h3 h4
    · rw [if_neg (by decide), ← List.map_reverse]
      walk_at "wp"
      exact h g.reverse _ _ (by rw [List.length_reverse]; exact h1) (by rw [sum_perm (List.reverse_perm g)]; exact h2) (fun x hx => h3 x (List.mem_reverse.mp hx)) fun l => by rw [lc_perm (List.reverse_perm g)]; exact h4 l
  refine SW.seq ?_
  walk_at "wp"
  refine ⟨.B, a.map .int, .inl (by walk_at "is"), elkBi, ?_⟩
  walk_at "wp"
  rw [List.length_map]
  refine BoW.d (fun h1 => ?_) fun h1 => ?_
  · walk_at "wp"
    refine FW.tk (by omega) (by omega) fun r d s lo hi => ?_
    walk_at "wp"
    refine ForW.num (fun i ρ => ∃ (g : List Int) (d s : Int) (v3 v4 v5 v6 : Option PV.Tm), ρ = [some (feedT d s), some (.v .B (lI a)), some (.v .O (lI g)), v3, v4, v5, v6] ∧ g.length = a.length ∧ g.sum = a.sum ∧ (∀ x ∈ g, 0 ≤ x ∧ x ≤ 1000000) ∧ ∀ l, lc l g ≤ lc l a) _ 0 ⟨a, _, _, _, _, _, _, rfl, rfl, rfl, ha, fun l => Int.le_refl _⟩ ?_ ?_
    · rintro i t ρ ht ⟨g, d, s, v3, v4, v5, v6, rfl, g1, g2, g3, g4⟩
      obtain ⟨hi, rfl⟩ := rngL_at ht
      walk_at "wp"
      refine clTurn_ok (by omega) (by omega) g3 fun g' d s v4 v5 v6 k1 k2 k3 k4 => ⟨g', d, s, _, _, _, _, rfl, by omega, by omega, k3, fun l => Int.le_trans (k4 l) (g4 l)⟩
    · rintro ρ ⟨g, d, s, v3, v4, v5, v6, rfl, g1, g2, g3, g4⟩
      exact rest g d s v3 v4 v5 v6 g1 g2 g3 g4
  · walk_at "wp"
    rw [show rngL 0 (Int.toNat 0) = [] from rfl]
    exact ForW.nil (rest a _ _ _ _ _ _ rfl rfl ha fun l => Int.le_refl _)
/-! k21: remove -/
theorem opRem_eq {g : List Int} {x : Int} (h : x ∈ g) : opRem (g.map .int) [.int x] = some (.non, (g.erase x).map .int) := by
  unfold opRem
  dsimp only
  rw [intsD_map]
  simp [h]
theorem lead_perm {g F F' : List Int} {h l m : Int} (hg : g.Perm F) (q3 : h ∈ g) (q4 : l ∈ g.erase h) (q5 : (h :: l :: F').Perm ((h - m) :: (l + m) :: F)) : ((g.erase h).erase l ++ [h - m, l + m]).Perm F' := by
  have e1 : g.Perm (h :: l :: (g.erase h).erase l) := (List.perm_cons_erase q3).trans (List.Perm.cons h (List.perm_cons_erase q4))
  have e2 : ((h - m) :: (l + m) :: F).Perm (h :: l :: (h - m) :: (l + m) :: (g.erase h).erase l) := by
    have e3 := List.Perm.cons (h - m) (List.Perm.cons (l + m) (hg.symm.trans e1))
    refine e3.trans ?_
    have e4 : ([h - m, l + m] ++ ([h, l] ++ (g.erase h).erase l)).Perm ([h, l] ++ ([h - m, l + m] ++ (g.erase h).erase l)) := by
      rw [← List.append_assoc, ← List.append_assoc]
      exact List.Perm.append_right _ List.perm_append_comm
    exact e4
  have e5 := ((q5.trans e2).cons_inv).cons_inv
  exact (List.perm_append_comm (l₁ := (g.erase h).erase l) (l₂ := [h - m, l + m])).trans e5.symm
/-! k21: data of a value, one step, the two checks of a step -/
structure OkI (d : D) : Prop where
  ty : ∃ t, tyD d = some t
  py : ∃ p, toPy d = some p ∧ PyData.canLay0 p = true ∧ PyData.depth p ≤ 50
structure OkS (d : D) : Prop where
  ty : ∃ t, tyD d = some t
  it : ∀ xs, d = .tup xs → xs.length ≤ 10 ∧ ∀ x ∈ xs, OkI x
def step1 (g : List Int) : D → Option (List Int)
  | .tup [.int h, .int l, .int m] => if m < 1 ∨ h - m < l + m ∨ h ∉ g then none else if l ∉ g.erase h then none else some ((g.erase h).erase l ++ [h - m, l + m])
  | _ => none
theorem step1_none {g : List Int} {s : D} (h : ∀ x y z : Int, s ≠ .tup [.int x, .int y, .int z]) : step1 g s = none := by
  unfold step1
  split
  · exact absurd rfl (h _ _ _)
  · rfl
theorem ty_int {d : D} (h : tyD d = some .int) : ∃ i, d = .int i := by
  cases d <;> simp only [tyD, reduceCtorEq, Option.some.injEq] at h
  exact ⟨_, rfl⟩
theorem FW.isint {d : D} {a : Ty} {P : PV.Tm → List PV.Tm → Prop} {X : Er → List PV.Tm → Prop} (hd : tyD d = some a) (h : P (.v .F (.bl (decide (a = .int)))) []) : FW den_is_integer [.v .B d] P X := by
  refine FW.def (ρ0 := [some (.v .B d)]) rfl ?_
  unfold d_is_integer
  cases a
  case int =>
    walk_at "wp"
    refine ⟨_, _, _, Is.v, hd, ?_⟩
    refine BoW.tt ?_
    walk_at "wp"
    refine ⟨_, _, _, Is.v, hd, ?_⟩
    refine NotW.b (b := false) ?_
    walk_at "wp"
    exact h
  case bl =>
    walk_at "wp"
    refine ⟨_, _, _, Is.v, hd, ?_⟩
    refine BoW.tt ?_
    walk_at "wp"
    refine ⟨_, _, _, Is.v, hd, ?_⟩
    refine NotW.b (b := true) ?_
    walk_at "wp"
    exact h
  all_goals
    walk_at "wp"
    refine ⟨_, _, _, Is.v, hd, ?_⟩
    refine BoW.ff ?_
    walk_at "wp"
    exact h
theorem FW.after {g : List Int} {s : D} {P : PV.Tm → List PV.Tm → Prop} {X : Er → List PV.Tm → Prop} (hg : g.length ≤ 100) (hs : OkS s) (h0 : step1 g s = none → P (.v .F .non) []) (h1 : ∀ g', step1 g s = some g' → P (.v .O (lI g')) []) : FW den_after_transfer [.v .B (lI g), .v .B s] P X := by
  refine FW.def (ρ0 := [some (.v .B (lI g)), some (.v .B s), none, none, none, none, none]) rfl ?_
  unfold d_after_transfer
  obtain ⟨t, ht⟩ := hs.ty
  by_cases e : t = .tup
  · obtain ⟨xs, rfl⟩ : ∃ xs, s = .tup xs := by
      subst e
      cases s <;> simp only [tyD, reduceCtorEq, Option.some.injEq] at ht
      exact ⟨_, rfl⟩
    obtain ⟨hl, hi⟩ := hs.it xs rfl
    walk_at "wp"
    refine ⟨_, _, _, Is.v, rfl, ?_⟩
    refine NotW.b (b := true) ?_
    refine BoW.ff ?_
    walk_at "wp"
    refine ⟨_, _, _, _, _, Is.v, Is.v, neD_int _ _, ?_⟩
    refine BoW.d (fun h3 => ?_) fun h3 => ?_
    · walk_at "wp"
      exact h0 (step1_none fun x y z e => h3 (by cases e; rfl))
    have l3 : xs.length = 3 := by omega
    walk_at "wp"
    refine CpW.map (inj := PV.Tm.v .B) (fun _ => true) (fun x => .bl (decide (tyD x = some .int))) xs (fun _ => rfl) rfl (fun x _ => ?_) (fun x hx _ => ?_) (by rw [filt_true, List.length_map, sizeLine_eq]; omega) ?_
    · walk_at "cp"
    · refine ⟨_, (by walk_at "set"), ?_⟩
      obtain ⟨a, ha⟩ := (hi x hx).ty
      walk_at "wp"
      refine FW.isint ha ?_
      walk_at "wp"
      refine ⟨?_, rfl⟩
      rw [ha]
      congr 2
      simp
    rw [filt_true]
    have e4 : (xs.map fun x => D.bl (decide (tyD x = some .int))) = (xs.map fun x => decide (tyD x = some .int)).map .bl := by rw [List.map_map]; rfl
    rw [e4]
    refine ⟨.O, _, Is.v, ?_⟩
    by_cases hall : ∀ x ∈ xs, tyD x = some .int
    · have e5 : (xs.map fun x => decide (tyD x = some .int)).all id = true := by
        rw [List.all_eq_true]
        intro b hb
        obtain ⟨x, hx, rfl⟩ := List.mem_map.mp hb
        simp [hall x hx]
      rw [e5]
      refine NotW.b (b := true) ?_
      refine BoW.ff ?_
      match xs, l3 with
      | [x, y, z], _ =>
      obtain ⟨a, rfl⟩ := ty_int (hall x (by simp))
      obtain ⟨b, rfl⟩ := ty_int (hall y (by simp))
      obtain ⟨c, rfl⟩ := ty_int (hall z (by simp))
      have st : step1 g (.tup [.int a, .int b, .int c]) = if c < 1 ∨ a - c < b + c ∨ a ∉ g then none else if b ∉ g.erase a then none else some ((g.erase a).erase b ++ [a - c, b + c]) := rfl
      walk_at "wp"
      refine FzW.Bx (by simp [PV.flat, PV.flat.flats]) ?_
      walk_at "wp"
      refine ⟨.B, g.map .int, .inl (by walk_at "is"), elkBi, ?_⟩
      walk_at "wp"
      refine BoW.d (fun c1 => ?_) fun c1 => ?_
      · walk_at "wp"
        exact h0 (by rw [st, if_pos (.inl c1)])
      walk_at "wp"
      refine BoW.d (fun c2 => ?_) fun c2 => ?_
      · walk_at "wp"
        exact h0 (by rw [st, if_pos (.inr (.inl c2))])
      walk_at "wp"
      refine ⟨_, _, _, _, _, Is.v, Is.loc rfl, ninE_l, ?_⟩
      refine BoW.d (fun c3 => ?_) fun c3 => ?_
      · walk_at "wp"
        exact h0 (by rw [st, if_pos (.inr (.inr c3))])
      have c3' : a ∈ g := Classical.not_not.mp c3
      walk_at "wp"
      refine lm5 (xs := g.map .int) (xs' := (g.erase a).map .int) (x := .non) rfl (opRem_eq c3') (by rw [List.length_map, sizeLine_eq]; have := List.length_erase_of_mem c3'; omega) rfl ?_
      walk_at "wp"
      refine ⟨_, _, _, _, _, Is.v, Is.loc rfl, ninE_l, ?_⟩
      refine BoW.d (fun c4 => ?_) fun c4 => ?_
      · walk_at "wp"
        exact h0 (by rw [st, if_neg (by intro hh; rcases hh with hh | hh | hh; exact c1 hh; exact c2 hh; exact c3 hh), if_pos c4])
      have c4' : b ∈ g.erase a := Classical.not_not.mp c4
      have le2 : ((g.erase a).erase b).length ≤ 100 := by have := List.length_erase_le (a := b) (l := g.erase a); have := List.length_erase_le (a := a) (l := g); omega
      walk_at "wp"
      refine lm5 (xs := (g.erase a).map .int) (xs' := ((g.erase a).erase b).map .int) (x := .non) rfl (opRem_eq c4') (by rw [List.length_map, sizeLine_eq]; omega) rfl ?_
      walk_at "wp"
      refine AddW.ll (by walk_at "is") (by walk_at "is") elkO elkO (by rw [List.length_map, sizeLine_eq]; show _ + 2 ≤ _; omega) ?_
      rw [show (((g.erase a).erase b).map D.int ++ [D.int (a - c), D.int (b + c)]) = (((g.erase a).erase b) ++ [a - c, b + c]).map D.int from by rw [List.map_append]; rfl]
      walk_at "wp"
      exact h1 _ (by rw [st, if_neg (by intro hh; rcases hh with hh | hh | hh; exact c1 hh; exact c2 hh; exact c3 hh), if_neg c4])
    · have e5 : (xs.map fun x => decide (tyD x = some .int)).all id = false := by
        rw [List.all_eq_false]
        obtain ⟨x, hx⟩ := Classical.not_forall.mp hall
        obtain ⟨hx1, hx2⟩ := Classical.not_imp.mp hx
        exact ⟨_, List.mem_map.mpr ⟨x, hx1, rfl⟩, by simp [hx2]⟩
      rw [e5]
      refine NotW.b (b := false) ?_
      refine BoW.tt ?_
      walk_at "wp"
      exact h0 (step1_none fun x y z e => hall (by cases e; intro q hq; simp only [List.mem_cons, List.not_mem_nil, or_false] at hq; rcases hq with rfl | rfl | rfl <;> rfl))
  · walk_at "wp"
    refine ⟨_, _, _, Is.v, ht, ?_⟩
    have e2 : isiB t .tup = false := by cases t <;> first | rfl | exact absurd rfl e
    rw [e2]
    refine NotW.b (b := false) ?_
    refine BoW.tt ?_
    walk_at "wp"
    exact h0 (step1_none fun x y z q => e (by subst q; simp only [tyD, Option.some.injEq] at ht; exact ht.symm))
/-! k21: the verdict on a value, by the program and by the law -/
structure OkV (o : D) : Prop where
  ty : ∃ t, tyD o = some t
  it : ∀ ss, o = .lst ss → ss.length ≤ 200 ∧ ∀ s ∈ ss, OkS s
def run1 : List Int → List D → Option (List Int)
  | g, [] => some g
  | g, s :: ss => match step1 g s with
    | none => none
    | some g' => run1 g' ss
theorem run1_snoc {s : D} : ∀ {g g' : List Int} {ss : List D}, run1 g ss = some g' → run1 g (ss ++ [s]) = step1 g' s
  | g, g', [], h => by
    simp only [run1, Option.some.injEq] at h
    subst h
    simp only [List.nil_append, run1]
    cases step1 g s <;> rfl
  | g, g', u :: ss, h => by
    simp only [run1] at h
    simp only [List.cons_append, run1]
    split at h
    · cases h
    · rename_i g2 e
      exact run1_snoc h
theorem run1_dead {g : List Int} : ∀ {ss ts : List D} {g : List Int}, run1 g ss = none → run1 g (ss ++ ts) = none
  | [], ts, g, h => by simp [run1] at h
  | u :: ss, ts, g, h => by
    simp only [run1] at h
    simp only [List.cons_append, run1]
    split at h
    · rename_i e; simp only [e]
    · rename_i g2 e
      exact run1_dead (g := g) h
theorem step1_len {g g' : List Int} {s : D} (h : step1 g s = some g') : g'.length = g.length := by
  unfold step1 at h
  split at h
  · split at h
    · cases h
    · split at h
      · cases h
      · rename_i c1 c2
        cases h
        have h1 : _ ∈ g := Classical.not_not.mp (fun z => c1 (.inr (.inr z)))
        have e1 := List.length_erase_of_mem h1
        have e2 := List.length_erase_of_mem (Classical.not_not.mp c2)
        have e3 := List.length_pos_of_mem h1
        have e4 := List.length_pos_of_mem (Classical.not_not.mp c2)
        rw [List.length_append]
        show _ + 2 = _
        omega
  · cases h
/-- the verdict -/
def tv (a b : List Int) : D → Bool
  | .lst ss => match run1 b ss with
    | some g => decide (isort g = isort a)
    | none => false
  | _ => false
theorem tv_nl {a b : List Int} {o : D} (h : ∀ ss, o ≠ .lst ss) : tv a b o = false := by
  cases o <;> first | rfl | exact absurd rfl (h _)
theorem FW.isT {a b : List Int} {o : D} {P : PV.Tm → List PV.Tm → Prop} {X : Er → List PV.Tm → Prop} (lb : b.length ≤ 100) (ho : OkV o) (h : P (.v .F (.bl (tv a b o))) []) : FW den_is_transfers [.v .B (lI a), .v .B (lI b), .v .B o] P X := by
  refine FW.def (ρ0 := [some (.v .B (lI a)), some (.v .B (lI b)), some (.v .B o), none, none]) rfl ?_
  unfold d_is_transfers
  obtain ⟨t, ht⟩ := ho.ty
  by_cases e : t = .lst
  · obtain ⟨ss, rfl⟩ : ∃ ss, o = .lst ss := by
      subst e
      cases o <;> simp only [tyD, reduceCtorEq, Option.some.injEq] at ht
      exact ⟨_, rfl⟩
    obtain ⟨hl, hi⟩ := ho.it ss rfl
    walk_at "wp"
    refine ⟨_, _, _, Is.v, rfl, ?_⟩
    refine NotW.b (b := true) ?_
    refine BoW.ff ?_
    walk_at "wp"
    refine ⟨.B, b.map .int, .inl (by walk_at "is"), elkBi, ?_⟩
    walk_at "wp"
    refine ForW.inv (inj := PV.Tm.v .B) (fun pre ρ => ∃ g v4, ρ = [some (.v .B (lI a)), some (.v .B (lI b)), some (.v .B (.lst ss)), some (.v .O (lI g)), v4] ∧ run1 b pre = some g ∧ g.length = b.length) ss [] ⟨b, none, rfl, rfl, rfl⟩ ?_ ?_
    · rintro as pre x suf ρ ha hp ⟨g, v4, rfl, hr, hgl⟩
      have hx : OkS x := hi x (by rw [← List.nil_append ss, ← ha, hp]; simp)
      walk_at "wp"
      refine FW.after (by omega) hx (fun hn => ?_) fun g' hs => ?_
      · walk_at "wp"
        refine ⟨_, _, _, Is.v, Is.v, ?_⟩
        refine BoW.tt ?_
        walk_at "wp"
        have : tv a b (.lst ss) = false := by
          simp only [tv]
          have e1 : ss = (pre ++ [x]) ++ suf := by rw [← List.nil_append ss, ← ha, hp]; simp
          have e2 : run1 b ss = none := by rw [e1]; exact run1_dead (g := b) (by rw [run1_snoc hr]; exact hn)
          rw [e2]
        rw [this] at h
        exact h
      · walk_at "wp"
        refine ⟨_, _, _, by walk_at "is", Is.v, ?_⟩
        refine BoW.ff ?_
        walk_at "wp"
        exact ⟨g', _, rfl, by rw [run1_snoc hr]; exact hs, by rw [step1_len hs]; exact hgl⟩
    · rintro ρ ⟨g, v4, rfl, hr, hgl⟩
      walk_at "wp"
      refine ⟨.O, g, _, by walk_at "is", .inl rfl, ?_⟩
      walk_at "wp"
      refine ⟨.B, a, _, by walk_at "is", .inl rfl, ?_⟩
      refine ⟨_, _, _, _, _, Is.v, Is.v, eqD_lints _ _, ?_⟩
      walk_at "wp"
      have : tv a b (.lst ss) = decide (isort g = isort a) := by simp only [tv]; rw [← List.nil_append ss, hr]
      rw [this] at h
      exact h
  · have e2 : isiB t .lst = false := by cases t <;> first | rfl | exact absurd rfl e
    walk_at "wp"
    refine ⟨_, _, _, Is.v, ht, ?_⟩
    rw [e2]
    refine NotW.b (b := false) ?_
    refine BoW.tt ?_
    walk_at "wp"
    rw [tv_nl (fun ss q => e (by subst q; simp only [tyD, Option.some.injEq] at ht; exact ht.symm))] at h
    exact h
/-! the law's -/
theorem py_filter {p : D → Bool} : ∀ {xs : List D}, (∀ x ∈ xs, OkI x) → ∃ ps, toPys (xs.filter p) = some ps ∧ PyData.canLayAll0 ps = true ∧ PyData.depthAll ps ≤ 50 ∧ ps.length = (xs.filter p).length
  | [], _ => ⟨[], by simp [toPys], by simp [PyData.canLayAll0], by simp [PyData.depthAll], rfl⟩
  | x :: xs, h => by
    obtain ⟨ps, h1, h2, h3, h4⟩ := py_filter (p := p) fun y hy => h y (List.mem_cons_of_mem _ hy)
    obtain ⟨q, q1, q2, q3⟩ := (h x List.mem_cons_self).py
    rw [List.filter_cons]
    split
    · exact ⟨q :: ps, by simp only [toPys, q1, h1], by simp only [PyData.canLayAll0, q2, h2, Bool.and_self], by simp only [PyData.depthAll]; omega, by simp [h4]⟩
    · exact ⟨ps, h1, h2, h3, h4⟩
theorem ne_nil {xs : List D} {ps : List PyData} (h1 : toPys xs = some ps) (h2 : PyData.canLayAll0 ps = true) (h3 : PyData.depthAll ps ≤ 50) (h4 : ps.length = xs.length) : eqD true (.lst xs) (.lst []) = some (.bl (decide (xs ≠ []))) := by
  have e1 : toPy (.lst xs) = some (.list ps) := by simp only [toPy, h1, Option.map_some]
  have e2 : toPy (.lst []) = some (.list []) := by simp [toPy, toPys]
  show (match strD (.lst xs), strD (.lst []) with
    | some a, some b => some (D.bl (if true then !decide (a = b) else decide (a = b)))
    | _, _ => eqP true (.lst xs) (.lst [])) = _
  show eqP true (.lst xs) (.lst []) = _
  unfold eqP
  rw [e1, e2]
  dsimp only
  have s1 : SeqAt.shaped (.list ps) = true := by
    show (PyData.canLay0 (.list ps) && decide (PyData.depth (.list ps) ≤ 64)) = true
    rw [Bool.and_eq_true]
    exact ⟨by simp only [PyData.canLay0]; exact h2, decide_eq_true (by simp only [PyData.depth]; omega)⟩
  rw [if_pos ⟨s1, by decide +kernel⟩]
  cases ps with
  | nil =>
    have : xs = [] := List.length_eq_zero_iff.mp (by rw [← h4]; rfl)
    subst this
    rfl
  | cons q qs =>
    have : xs ≠ [] := fun z => by rw [z] at h4; cases h4
    rw [decide_eq_true this]
    rfl
theorem int_of_filter {p : D → Bool} {xs : List D} : xs.filter p = [] ↔ ∀ x ∈ xs, p x = false := by
  rw [List.filter_eq_nil_iff]
  exact ⟨fun h x hx => by simpa using h x hx, fun h x hx => by simp [h x hx]⟩
theorem FW.leadsV {a b : List Int} {o : D} {P : PV.Tm → List PV.Tm → Prop} {X : Er → List PV.Tm → Prop} (lb : b.length ≤ 100) (ho : OkV o) (h : P (.v .F (.bl (tv a b o))) []) : FW den__law_leads [.v .B (lI a), .v .B (lI b), .v .F o] P X := by
  refine FW.def (ρ0 := [some (.v .B (lI a)), some (.v .B (lI b)), some (.v .F o), none, none, none, none, none, none]) rfl ?_
  unfold d__law_leads
  obtain ⟨t, ht⟩ := ho.ty
  by_cases e : t = .lst
  · obtain ⟨ss, rfl⟩ : ∃ ss, o = .lst ss := by
      subst e
      cases o <;> simp only [tyD, reduceCtorEq, Option.some.injEq] at ht
      exact ⟨_, rfl⟩
    obtain ⟨hl, hi⟩ := ho.it ss rfl
    walk_at "wp"
    refine ⟨_, _, _, Is.v, rfl, ?_⟩
    refine NotW.b (b := true) ?_
    refine BoW.ff ?_
    walk_at "wp"
    refine ⟨.B, b.map .int, .inl (by walk_at "is"), elkBi, ?_⟩
    walk_at "wp"
    refine ForW.inv (inj := PV.Tm.v .F) (fun pre ρ => ∃ g v4 v5 v6 v7, ρ = [some (.v .B (lI a)), some (.v .B (lI b)), some (.v .F (.lst ss)), some (.v .O (lI g)), v4, v5, v6, v7, none] ∧ run1 b pre = some g ∧ g.length = b.length) ss [] ⟨b, none, none, none, none, rfl, rfl, rfl⟩ ?_ ?_
    · rintro as pre x suf ρ ha hp ⟨g, v4, v5, v6, v7, rfl, hr, hgl⟩
      have hx : OkS x := hi x (by rw [← List.nil_append ss, ← ha, hp]; simp)
      have bad : step1 g x = none → tv a b (.lst ss) = false := fun hn => by
        simp only [tv]
        have e1 : ss = (pre ++ [x]) ++ suf := by rw [← List.nil_append ss, ← ha, hp]; simp
        have e2 : run1 b ss = none := by rw [e1]; exact run1_dead (g := b) (by rw [run1_snoc hr]; exact hn)
        rw [e2]
      have fls : step1 g x = none → P (.v .F (.bl false)) [] := fun hn => by rw [bad hn] at h; exact h
      have nxt : ∀ {g' : List Int} {v4 v5 v6 v7 : Option PV.Tm}, step1 g x = some g' → (fun ρ => ∃ g v4 v5 v6 v7, ρ = [some (.v .B (lI a)), some (.v .B (lI b)), some (.v .F (.lst ss)), some (.v .O (lI g)), v4, v5, v6, v7, none] ∧ run1 b (pre ++ [x]) = some g ∧ g.length = b.length) [some (.v .B (lI a)), some (.v .B (lI b)), some (.v .F (.lst ss)), some (.v .O (lI g')), v4, v5, v6, v7, none] := fun hs => ⟨_, _, _, _, _, rfl, by rw [run1_snoc hr]; exact hs, by rw [step1_len hs]; exact hgl⟩
      generalize (fun ρ : Ss => ∃ g v4 v5 v6 v7, ρ = [some (.v .B (lI a)), some (.v .B (lI b)), some (.v .F (.lst ss)), some (.v .O (lI g)), v4, v5, v6, v7, none] ∧ run1 b (pre ++ [x]) = some g ∧ g.length = b.length) = NN at nxt ⊢
      obtain ⟨tx, htx⟩ := hx.ty
      by_cases ex : tx = .tup
      · obtain ⟨xs, rfl⟩ : ∃ xs, x = .tup xs := by
          subst ex
          cases x <;> simp only [tyD, reduceCtorEq, Option.some.injEq] at htx
          exact ⟨_, rfl⟩
        obtain ⟨hl3, hi3⟩ := hx.it xs rfl
        walk_at "wp"
        refine ⟨_, _, _, Is.v, rfl, ?_⟩
        refine NotW.b (b := true) ?_
        refine BoW.ff ?_
        walk_at "wp"
        refine ⟨_, _, _, _, _, Is.v, Is.v, neD_int _ _, ?_⟩
        refine BoW.d (fun h3 => ?_) fun h3 => ?_
        · walk_at "wp"
          exact fls (step1_none fun x y z e => h3 (by cases e; rfl))
        have l3 : xs.length = 3 := by omega
        walk_at "wp"
        refine CpW.map (inj := PV.Tm.v .F) (fun x => !decide (tyD x = some .int)) (fun x => x) xs (fun _ => rfl) rfl (fun y hy => ?_) (fun y hy _ => ?_) (by rw [List.length_map, sizeLine_eq]; have := List.length_filter_le (fun x => !decide (tyD x = some .int)) xs; omega) ?_
        · refine ⟨_, (by walk_at "set"), ?_⟩
          obtain ⟨q, hq⟩ := (hi3 y hy).ty
          walk_at "wp"
          refine ⟨_, _, _, Is.v, hq, ?_⟩
          refine NotW.b ?_
          rw [hq]
          cases q
          case bl =>
            refine BoW.ff ?_
            walk_at "wp"
            refine ⟨_, _, _, Is.v, hq, ?_⟩
            exact ⟨rfl, rfl⟩
          case int =>
            refine BoW.ff ?_
            walk_at "wp"
            refine ⟨_, _, _, Is.v, hq, ?_⟩
            exact ⟨rfl, rfl⟩
          all_goals
            refine BoW.tt ?_
            exact ⟨rfl, rfl⟩
        · walk_at "cp"
        rw [List.map_id']
        obtain ⟨ps, p1, p2, p3, p4⟩ := py_filter (p := fun x => !decide (tyD x = some .int)) hi3
        walk_at "wp"
        refine ⟨_, _, _, _, _, Is.v, Is.v, ne_nil p1 p2 p3 p4, ?_⟩
        refine BoW.d (fun c0 => ?_) fun c0 => ?_
        · walk_at "wp"
          refine fls (step1_none fun x y z e => c0 (int_of_filter.mpr ?_))
          cases e
          intro q hq
          simp only [List.mem_cons, List.not_mem_nil, or_false] at hq
          rcases hq with rfl | rfl | rfl <;> rfl
        have hall : ∀ x ∈ xs, tyD x = some .int := fun x hx => by simpa using int_of_filter.mp (Classical.not_not.mp c0) x hx
        match xs, l3 with
        | [x, y, z], _ =>
        obtain ⟨a', rfl⟩ := ty_int (hall x (by simp))
        obtain ⟨b', rfl⟩ := ty_int (hall y (by simp))
        obtain ⟨c', rfl⟩ := ty_int (hall z (by simp))
        have st : step1 g (.tup [.int a', .int b', .int c']) = if c' < 1 ∨ a' - c' < b' + c' ∨ a' ∉ g then none else if b' ∉ g.erase a' then none else some ((g.erase a').erase b' ++ [a' - c', b' + c']) := rfl
        walk_at "wp"
        refine BoW.d (fun c1 => ?_) fun c1 => ?_
        · walk_at "wp"
          exact fls (by rw [st, if_pos (.inl c1)])
        walk_at "wp"
        refine BoW.d (fun c2 => ?_) fun c2 => ?_
        · walk_at "wp"
          exact fls (by rw [st, if_pos (.inr (.inl c2))])
        walk_at "wp"
        refine ⟨_, _, _, _, _, Is.v, Is.loc rfl, ninE_l, ?_⟩
        refine BoW.d (fun c3 => ?_) fun c3 => ?_
        · walk_at "wp"
          exact fls (by rw [st, if_pos (.inr (.inr c3))])
        have c3' : a' ∈ g := Classical.not_not.mp c3
        have hne : b' ≠ a' := by omega
        walk_at "wp"
        refine ⟨_, _, _, _, _, Is.v, Is.loc rfl, ninE_l, ?_⟩
        have nn : ¬ (c' < 1 ∨ a' - c' < b' + c' ∨ a' ∉ g) := by intro hh; rcases hh with hh | hh | hh; exact c1 hh; exact c2 hh; exact c3 hh
        refine BoW.d (fun c4 => ?_) fun c4 => ?_
        · walk_at "wp"
          exact fls (by rw [st, if_neg nn, if_pos (fun hh => c4 (List.mem_of_mem_erase hh))])
        have c4' : b' ∈ g.erase a' := (List.mem_erase_of_ne hne).mpr (Classical.not_not.mp c4)
        have le2 : ((g.erase a').erase b').length ≤ 100 := by have := List.length_erase_le (a := b') (l := g.erase a'); have := List.length_erase_le (a := a') (l := g); omega
        walk_at "wp"
        refine lm5 (xs := g.map .int) (xs' := (g.erase a').map .int) (x := .non) rfl (opRem_eq c3') (by rw [List.length_map, sizeLine_eq]; have := List.length_erase_of_mem c3'; omega) rfl ?_
        walk_at "wp"
        refine lm5 (xs := (g.erase a').map .int) (xs' := ((g.erase a').erase b').map .int) (x := .non) rfl (opRem_eq c4') (by rw [List.length_map, sizeLine_eq]; omega) rfl ?_
        walk_at "wp"
        refine AddW.ll (by walk_at "is") (by walk_at "is") elkO elkO (by rw [List.length_map, sizeLine_eq]; show _ + 2 ≤ _; omega) ?_
        rw [show (((g.erase a').erase b').map D.int ++ [D.int (a' - c'), D.int (b' + c')]) = (((g.erase a').erase b') ++ [a' - c', b' + c']).map D.int from by rw [List.map_append]; rfl]
        walk_at "wp"
        exact nxt (by rw [st, if_neg nn, if_neg (fun hh => hh c4')])
      · have e2 : isiB tx .tup = false := by cases tx <;> first | rfl | exact absurd rfl ex
        walk_at "wp"
        refine ⟨_, _, _, Is.v, htx, ?_⟩
        rw [e2]
        refine NotW.b (b := false) ?_
        refine BoW.tt ?_
        walk_at "wp"
        exact fls (step1_none fun x y z q => ex (by subst q; simp only [tyD, Option.some.injEq] at htx; exact htx.symm))
    · rintro ρ ⟨g, v4, v5, v6, v7, rfl, hr, hgl⟩
      walk_at "wp"
      refine ⟨.O, g, _, by walk_at "is", .inl rfl, ?_⟩
      walk_at "wp"
      refine ⟨.B, a, _, by walk_at "is", .inl rfl, ?_⟩
      refine ⟨_, _, _, _, _, Is.v, Is.v, eqD_lints _ _, ?_⟩
      walk_at "wp"
      have : tv a b (.lst ss) = decide (isort g = isort a) := by simp only [tv]; rw [← List.nil_append ss, hr]
      rw [this] at h
      exact h
  · have e2 : isiB t .lst = false := by cases t <;> first | rfl | exact absurd rfl e
    walk_at "wp"
    refine ⟨_, _, _, Is.v, ht, ?_⟩
    rw [e2]
    refine NotW.b (b := false) ?_
    refine BoW.tt ?_
    walk_at "wp"
    rw [tv_nl (fun ss q => e (by subst q; simp only [tyD, Option.some.injEq] at ht; exact ht.symm))] at h
    exact h
/-! k21: the law's own steps -/
theorem okI_int (i : Int) : OkI (.int i) := ⟨⟨_, rfl⟩, _, rfl, rfl, by simp [PyData.depth]⟩
theorem okI_non : OkI .non := ⟨⟨_, rfl⟩, _, rfl, rfl, by simp [PyData.depth]⟩
theorem okI_bl (b : Bool) : OkI (.bl b) := ⟨⟨_, rfl⟩, _, rfl, rfl, by simp [PyData.depth]⟩
theorem okI_l1 (i : Int) : OkI (.lst [.int i]) := ⟨⟨_, rfl⟩, .list [.int i], by simp [toPy, toPys], by simp [PyData.canLay0, PyData.canLayAll0], by simp [PyData.depth, PyData.depthAll]⟩
theorem okS_tup {xs : List D} (hl : xs.length ≤ 10) (h : ∀ x ∈ xs, OkI x) : OkS (.tup xs) := ⟨⟨_, rfl⟩, fun ys e => by cases e; exact ⟨hl, h⟩⟩
theorem okS_nt {d : D} {t : Ty} (h : tyD d = some t) (ht : t ≠ .tup) : OkS d := ⟨⟨_, h⟩, fun ys e => by subst e; simp only [tyD, Option.some.injEq] at h; exact absurd h.symm ht⟩
theorem okS_3 {a b c : D} (ha : OkI a) (hb : OkI b) (hc : OkI c) : OkS (.tup [a, b, c]) := okS_tup (by simp) fun x hx => by
  simp only [List.mem_cons, List.not_mem_nil, or_false] at hx
  rcases hx with rfl | rfl | rfl <;> assumption
theorem okS_sD (s : Int × Int × Int) : OkS (sD s) := okS_3 (okI_int _) (okI_int _) (okI_int _)
theorem okV_lst {ss : List D} (hl : ss.length ≤ 200) (h : ∀ s ∈ ss, OkS s) : OkV (.lst ss) := ⟨⟨_, rfl⟩, fun ys e => by cases e; exact ⟨hl, h⟩⟩
theorem okS_ss {ss : List (Int × Int × Int)} : ∀ s ∈ ss.map sD, OkS s := fun s hs => by
  obtain ⟨x, _, rfl⟩ := List.mem_map.mp hs
  exact okS_sD x
def stB (s : Int × Int × Int) : Prop := (0 ≤ s.1 ∧ s.1 ≤ 1000000) ∧ (0 ≤ s.2.1 ∧ s.2.1 ≤ 1000000) ∧ 0 ≤ s.2.2 ∧ s.2.2 ≤ 1000000
theorem atI_neg1 {α : Type} {xs : List α} {x : α} (h : xs[xs.length - 1]? = some x) : atI xs (-1) = some x := by
  have hl := (List.getElem?_eq_some_iff.mp h).1
  unfold atI ixN
  rw [if_neg (by omega), if_pos (by omega)]
  show xs[(-1 + (xs.length : Int)).toNat]? = some x
  rw [show (-1 + (xs.length : Int)).toNat = xs.length - 1 by omega]
  exact h
def osTurn : Sm := (sSeq (sSet 2 (eSorted (eVar 2)))
    (sSeq (sPar [5, 6] (gCons (eIdx (eVar 2) (eCall den__law_take [.io, .b] (gCons (eVar 0) (gCons (eSub (eLen (eVar 2)) (eC (.int 1))) gNil)))) (gCons (eIdx (eVar 2) (eNeg (eC (.int 1)))) gNil)))
    (sIf (eGt (eSub (eVar 6) (eVar 5)) (eC (.int 1)))
    (sSeq (sSet 7 (eAdd (eC (.int 1)) (eCall den__law_take [.io, .b] (gCons (eVar 0) (gCons (eDiv (eSub (eVar 6) (eVar 5)) (eC (.int 2))) gNil)))))
    (sSeq (sExpr (eLm opRem 2 (gCons (eF (eVar 5)) gNil)))
    (sSeq (sExpr (eLm opRem 2 (gCons (eF (eVar 6)) gNil)))
    (sSeq (sSet 2 (eAdd (eVar 2) (eLst (gCons (eSub (eVar 6) (eVar 7)) (gCons (eAdd (eVar 5) (eVar 7)) gNil)))))
    (sExpr (eLm opApp 3 (gCons (eTup (gCons (eF (eVar 6)) (gCons (eF (eVar 5)) (gCons (eF (eVar 7)) gNil)))) gNil)))))))
    sNil)))
def osRest : Sm := (sRet (eTup (gCons (eF (eVar 2)) (gCons (eF (eVar 3)) gNil))))
theorem os_eq : d__law_own_steps = sSeq (sPar [2, 3] (gCons (eList (eVar 1)) (gCons (eLst gNil) gNil)))
    (sSeq (sFor (itR1 (eIf (eGt (eLen (eVar 2)) (eC (.int 1))) (eCall den__law_take [.io, .b] (gCons (eVar 0) (gCons (eC (.int 9)) gNil))) (eC (.int 0)))) (tgN 4) osTurn) osRest) := rfl
theorem osTurn_ok {x1 v4 v5 v6 v7 : Option PV.Tm} {g : List Int} {ss : List (Int × Int × Int)} {d s : Int} {N : Ss → Prop} {R : PV.Tm → Ss → Prop} {B C : Ss → Prop} {X : PX} (h2 : 2 ≤ g.length) (hl : g.length ≤ 30) (hb : ∀ x ∈ g, 0 ≤ x ∧ x ≤ 1000000) (hs : ss.length ≤ 100) (hsb : ∀ q ∈ ss, stB q)
    (h : ∀ (g' : List Int) (ss' : List (Int × Int × Int)) (d s : Int) (v5 v6 v7 : Option PV.Tm), g'.length = g.length → (∀ x ∈ g', 0 ≤ x ∧ x ≤ 1000000) → ss'.length ≤ ss.length + 1 → (∀ q ∈ ss', stB q) → N [some (feedT d s), x1, some (.v .O (lI g')), some (.v .O (.lst (ss'.map sD))), v4, v5, v6, v7]) :
    SW osTurn [some (feedT d s), x1, some (.v .O (lI g)), some (.v .O (.lst (ss.map sD))), v4, v5, v6, v7] N R B C X := by
  have il : (isort g).length = g.length := (isort_perm g).length_eq
  have ib : ∀ x ∈ isort g, 0 ≤ x ∧ x ≤ 1000000 := fun x hx => hb x ((isort_perm g).mem_iff.mp hx)
  unfold osTurn
  walk_at "wp"
  refine ⟨.O, g, _, by walk_at "is", .inl rfl, ?_⟩
  walk_at "wp"
  rw [List.length_map, il]
  refine FW.tk (by omega) (by omega) fun r d s lo hi => ?_
  obtain ⟨k, rfl⟩ := Int.eq_ofNat_of_zero_le lo
  have hkl : k < (isort g).length := by omega
  have e1 : ((isort g).map D.int)[k]? = some (.int (isort g)[k]) := by rw [List.getElem?_map, List.getElem?_eq_getElem hkl]; rfl
  have hl1 : (isort g).length - 1 < (isort g).length := by omega
  have e2 : ((isort g).map D.int)[((isort g).map D.int).length - 1]? = some (.int (isort g)[(isort g).length - 1]) := by rw [List.length_map, List.getElem?_map, List.getElem?_eq_getElem hl1]; rfl
  have m1 : (isort g)[k] ∈ isort g := List.getElem_mem hkl
  have m2 : (isort g)[(isort g).length - 1] ∈ isort g := List.getElem_mem hl1
  generalize (isort g)[k] = low at e1 m1
  generalize (isort g)[(isort g).length - 1] = high at e2 m2
  walk_at "wp"
  refine IdxW.lO (by walk_at "is") (by walk_at "is") (atN e1) ?_
  walk_at "wp"
  refine IdxW.lO (by walk_at "is") (by walk_at "is") (atI_neg1 e2) ?_
  walk_at "wp"
  have b1 := ib low m1
  have b2 := ib high m2
  refine BoW.d (fun hg => ?_) fun hg => ?_
  · walk_at "wp"
    refine FW.tk (by omega) (by omega) fun r d s lo hi => ?_
    have m3 : high ∈ (isort g).erase low := (List.mem_erase_of_ne (by omega)).mpr m2
    have z1 := List.length_erase_of_mem m1
    have z2 := List.length_erase_of_mem m3
    walk_at "wp"
    refine lm5 (xs := (isort g).map .int) (xs' := ((isort g).erase low).map .int) (x := .non) rfl (opRem_eq m1) (by rw [List.length_map, sizeLine_eq]; omega) rfl ?_
    walk_at "wp"
    refine lm5 (xs := ((isort g).erase low).map .int) (xs' := (((isort g).erase low).erase high).map .int) (x := .non) rfl (opRem_eq m3) (by rw [List.length_map, sizeLine_eq]; omega) rfl ?_
    walk_at "wp"
    refine AddW.ll (by walk_at "is") (by walk_at "is") elkO elkO (by rw [List.length_map, sizeLine_eq]; show _ + 2 ≤ _; omega) ?_
    rw [show ((((isort g).erase low).erase high).map D.int ++ [D.int (high - (1 + r)), D.int (low + (1 + r))]) = (((isort g).erase low).erase high ++ [high - (1 + r), low + (1 + r)]).map D.int from by rw [List.map_append]; rfl]
    have hmv : r < (high - low) / 2 := hi
    walk_at "wp"
    have e8 : ss.map sD ++ [.tup [.int high, .int low, .int (1 + r)]] = (ss ++ [(high, low, 1 + r)]).map sD := by rw [List.map_append]; rfl
    refine (show N [some (feedT d s), x1, some (.v .O (lI (((isort g).erase low).erase high ++ [high - (1 + r), low + (1 + r)]))), some (.v .O (.lst (ss.map sD ++ [.tup [.int high, .int low, .int (1 + r)]]))), v4, some (.v .F (.int low)), some (.v .F (.int high)), some (.v .F (.int (1 + r)))] from ?_)
    rw [e8]
    refine h (((isort g).erase low).erase high ++ [high - (1 + r), low + (1 + r)]) (ss ++ [(high, low, 1 + r)]) _ _ _ _ _ (by rw [List.length_append]; show _ + 2 = _; omega) (fun x hx => ?_) (by rw [List.length_append]; exact Nat.le_refl _) fun q hq => ?_
    · rcases List.mem_append.mp hx with hx | hx
      · exact ib x (List.mem_of_mem_erase (List.mem_of_mem_erase hx))
      · simp only [List.mem_cons, List.not_mem_nil, or_false] at hx
        rcases hx with rfl | rfl <;> omega
    · rcases List.mem_append.mp hq with hq | hq
      · exact hsb q hq
      · rw [List.mem_singleton.mp hq]
        exact ⟨b2, b1, by show 0 ≤ 1 + r; omega, by show 1 + r ≤ _; omega⟩
  · walk_at "wp"
    exact h (isort g) ss _ _ _ _ _ il ib (by omega) hsb
theorem FW.ownsteps {a : List Int} {d s : Int} {P : PV.Tm → List PV.Tm → Prop} {X : Er → List PV.Tm → Prop} (la : a.length ≤ 30) (ha : ∀ x ∈ a, 0 ≤ x ∧ x ≤ 1000000)
    (h : ∀ (g : List Int) (ss : List (Int × Int × Int)) (d' s' : Int), g.length = a.length → ss.length ≤ 9 → (∀ q ∈ ss, stB q) → P (.v .F (.tup [lI g, .lst (ss.map sD)])) [feedT d' s']) : FW den__law_own_steps [feedT d s, .v .B (lI a)] P X := by
  refine FW.def (ρ0 := [some (feedT d s), some (.v .B (lI a)), none, none, none, none, none, none]) rfl ?_
  rw [os_eq]
  have rest : ∀ {N : Ss → Prop} {B C : Ss → Prop} {X' : PX} (g : List Int) (ss : List (Int × Int × Int)) (d s : Int) (v4 v5 v6 v7 : Option PV.Tm), g.length = a.length → ss.length ≤ 9 → (∀ q ∈ ss, stB q) →
      SW osRest [some (feedT d s), some (.v .B (lI a)), some (.v .O (lI g)), some (.v .O (.lst (ss.map sD))), v4, v5, v6, v7] N (fun t ρ => UnW t fun t' => GiW ρ [0] fun us => P t' us) B C X' := fun g ss d s v4 v5 v6 v7 h1 h2 h3 => by
    unfold osRest
    walk_at "wp"
    exact h g ss _ _ h1 h2 h3
  refine SW.seq ?_
  walk_at "wp"
  refine ⟨.B, a.map .int, .inl (by walk_at "is"), elkBi, ?_⟩
  walk_at "wp"
  rw [List.length_map]
  refine BoW.d (fun h1 => ?_) fun h1 => ?_
  · walk_at "wp"
    refine FW.tk (by omega) (by omega) fun r d s lo hi => ?_
    walk_at "wp"
    refine ForW.num (fun i ρ => ∃ (g : List Int) (ss : List (Int × Int × Int)) (d s : Int) (v4 v5 v6 v7 : Option PV.Tm), ρ = [some (feedT d s), some (.v .B (lI a)), some (.v .O (lI g)), some (.v .O (.lst (ss.map sD))), v4, v5, v6, v7] ∧ g.length = a.length ∧ (∀ x ∈ g, 0 ≤ x ∧ x ≤ 1000000) ∧ ss.length ≤ i ∧ ∀ q ∈ ss, stB q) _ 0 ⟨a, [], d, s, _, _, _, _, rfl, rfl, ha, Nat.le_refl _, fun q hq => absurd hq List.not_mem_nil⟩ ?_ ?_
    · rintro i t ρ ht ⟨g, ss, d, s, v4, v5, v6, v7, rfl, g1, g2, g3, g4⟩
      obtain ⟨hi, rfl⟩ := rngL_at ht
      walk_at "wp"
      refine osTurn_ok (by omega) (by omega) g2 (by omega) g4 fun g' ss' d s v5 v6 v7 k1 k2 k3 k4 => ⟨g', ss', d, s, _, _, _, _, rfl, by omega, k2, by omega, k4⟩
    · rintro ρ ⟨g, ss, d, s, v4, v5, v6, v7, rfl, g1, g2, g3, g4⟩
      rw [show (rngL 0 r.toNat).length = r.toNat from by simp [rngL]] at g3
      exact rest g ss d s v4 v5 v6 v7 g1 (by omega) g4
  · walk_at "wp"
    rw [show rngL 0 (Int.toNat 0) = [] from rfl]
    exact ForW.nil (rest a [] _ _ _ _ _ _ rfl (by simp) fun q hq => absurd hq List.not_mem_nil)
/-! k21: values near the law's own steps -/
def orTurn : Sm := (sSeq (sSet 9 (eLst (gCons (eTup (gCons (eF (eVar 5)) (gCons eN (gCons (eC (.int 1)) gNil)))) (gCons (eTup (gCons (eF (eVar 5)) (gCons (eStrI (eVar 6)) (gCons (eC (.int 1)) gNil)))) (gCons (eTup (gCons eN (gCons (eF (eVar 6)) (gCons (eC (.int 1)) gNil)))) (gCons (eTup (gCons (eF (eVar 5)) (gCons (eLst (gCons (eF (eVar 6)) gNil)) (gCons (eC (.int 1)) gNil)))) (gCons (eTup gNil) (gCons (eTup (gCons (eF (eVar 6)) (gCons (eF (eVar 5)) (gCons (eSub (eC (.int 0)) (eVar 7)) gNil)))) gNil))))))))
    (sSeq (sSet 8 (eAdd (eVar 8) (eComp (itSeq (eF (eVar 9))) [13] (tgN 13) eTrue (eAdd (eLst (gCons (eF (eVar 13)) gNil)) (eVar 3)))))
    (sSeq (sSet 8 (eAdd (eVar 8) (eLst (gCons (eAdd (eVar 3) (eLst (gCons (eTup (gCons (eF (eVar 6)) (gCons (eF (eVar 5)) (gCons (eSub (eC (.int 0)) (eVar 7)) gNil)))) gNil))) (gCons (eAdd (eVar 3) (eLst (gCons (eTup (gCons (eF (eVar 5)) (gCons (eF (eVar 6)) (gCons (eF (eVar 7)) (gCons (eC (.int 0)) gNil))))) gNil))) gNil)))))
    (sExpr (eLm opApp 8 (gCons (eAdd (eLst (gCons (eTup (gCons (eF (eVar 5)) (gCons (eF (eVar 6)) (gCons (eNeg (eC (.int 1))) gNil)))) (gCons (eTup (gCons (eAdd (eVar 5) (eC (.int 1))) (gCons (eSub (eVar 6) (eC (.int 1))) (gCons (eC (.int 1)) gNil)))) gNil))) (eVar 3)) gNil))))))
def orC : Sm := (sSeq (sSet 11 (eLst gNil))
    (sSeq (sFor (itR1 (eC (.int 46))) (tgN 12)
    (sSet 11 (eIf (eEq (eMod (eVar 12) (eC (.int 2))) (eC (.int 0))) (eLst (gCons (eF (eVar 11)) gNil)) (eTup (gCons (eF (eVar 11)) gNil)))))
    (sRet (eAnd (eIsB (eCall den_is_transfers [.b, .b, .b] (gCons (eLst (gCons (eC (.int 1)) gNil)) (gCons (eLst (gCons (eC (.int 1)) gNil)) (gCons (eLst (gCons (eF (eVar 11)) gNil)) gNil)))) (eC (.bl false))) (eIsB (eCall den_is_transfers [.b, .b, .b] (gCons (eLst (gCons (eC (.int 1)) gNil)) (gCons (eLst (gCons (eC (.int 1)) gNil)) (gCons (eLst (gCons (eTup (gCons (eC (.int 1)) (gCons (eF (eVar 11)) (gCons (eC (.int 1)) gNil)))) gNil)) gNil)))) (eC (.bl false)))))))
def orB : Sm := (sSeq (sFor (itSeq (eF (eVar 8))) (tgN 10)
    (sIf (eNe (eRepr3 (eCall den_is_transfers [.b, .b, .b] (gCons (eVar 2) (gCons (eVar 1) (gCons (eVar 10) gNil))))) (eRepr3 (eCall den__law_leads [.b, .b, .f] (gCons (eVar 2) (gCons (eVar 1) (gCons (eF (eVar 10)) gNil))))))
    (sRet (eC (.bl false)))
    sNil))
    (sSeq (sIf (eOr (eNotB (eCall den_is_transfers [.b, .b, .b] (gCons (eLst (gCons (eC (.int 2)) (gCons (eC (.int 2)) gNil))) (gCons (eLst (gCons (eC (.int 1)) (gCons (eC (.int 3)) gNil))) (gCons (eLst (gCons (eTup (gCons (eC (.int 1)) (gCons (eC (.int 3)) (gCons (eNeg (eC (.int 1))) gNil)))) gNil)) gNil)))) (eC (.bl false))) (eNotB (eCall den_is_transfers [.b, .b, .b] (gCons (eLst (gCons (eC (.int 3)) (gCons (eC (.int 3)) gNil))) (gCons (eLst (gCons (eC (.int 0)) (gCons (eC (.int 6)) gNil))) (gCons (eLst (gCons (eTup (gCons (eC (.int 6)) (gCons (eC (.int 0)) (gCons (eC (.int 3)) gNil)))) gNil)) gNil)))) (eC (.bl true))))
    (sRet (eC (.bl false)))
    sNil)
    orC))
def orA : Sm := (sSeq (sSet 8 (eLst (gCons (eF (eVar 3)) (gCons (eF (eVar 4)) (gCons (eAdd (eVar 3) (eLst (gCons (eTup (gCons (eNeg (eC (.int 1))) (gCons (eNeg (eC (.int 1))) (gCons (eC (.int 1)) gNil)))) gNil))) gNil)))))
    (sSeq (sFor (itSeq (eSl (eVar 3) none (some (eC (.int 3))))) (tgTup (tgsCons (tgN 5) (tgsCons (tgN 6) (tgsCons (tgN 7) tgsNil))))
    orTurn)
    orB))
theorem or_eq : d__law_own_right = (sSeq (sAsg (tgTup (tgsCons (tgN 2) (tgsCons (tgN 3) tgsNil))) (eCall den__law_own_steps [.io, .b] (gCons (eVar 0) (gCons (eVar 1) gNil))))
    (sSeq (sSet 4 (eLst gNil))
    (sSeq (sFor (itSeq (eF (eVar 3))) (tgTup (tgsCons (tgN 5) (tgsCons (tgN 6) (tgsCons (tgN 7) tgsNil))))
    (sSet 4 (eAdd (eVar 4) (eSl (eLst (gCons (eTup (gCons (eF (eVar 5)) (gCons (eF (eVar 6)) (gCons (eC (.int 1)) gNil)))) (gCons (eTup (gCons (eSub (eVar 5) (eC (.int 1))) (gCons (eAdd (eVar 6) (eC (.int 1))) (gCons (eSub (eVar 7) (eC (.int 1))) gNil)))) gNil))) none (some (eAdd (eC (.int 1)) (eIntB (eGt (eVar 7) (eC (.int 1))))))))))
    orA))) := rfl
/-! the deep value -/
structure Dp0 (n : Nat) (d : D) : Prop where
  ty : ∃ t, tyD d = some t
  py : ∃ p, toPy d = some p ∧ PyData.canLay0 p = true ∧ PyData.depth p ≤ n
theorem Dp0.lst {n : Nat} {d : D} (h : Dp0 n d) : Dp0 (n + 1) (.lst [d]) := by
  obtain ⟨_, p, h1, h2, h3⟩ := h
  exact ⟨⟨_, rfl⟩, .list [p], by simp only [toPy, toPys, h1, Option.map_some], by simp only [PyData.canLay0, PyData.canLayAll0, h2, Bool.and_self], by simp only [PyData.depth, PyData.depthAll]; omega⟩
theorem Dp0.tup {n : Nat} {d : D} (h : Dp0 n d) : Dp0 (n + 1) (.tup [d]) := by
  obtain ⟨_, p, h1, h2, h3⟩ := h
  exact ⟨⟨_, rfl⟩, .tuple [p], by simp only [toPy, toPys, h1, Option.map_some], by simp only [PyData.canLay0, PyData.canLayAll0, h2, Bool.and_self], by simp only [PyData.depth, PyData.depthAll]; omega⟩
theorem Dp0.nil : Dp0 1 (.lst []) := ⟨⟨_, rfl⟩, .list [], by simp [toPy, toPys], by simp [PyData.canLay0, PyData.canLayAll0], by simp [PyData.depth, PyData.depthAll]⟩
theorem Dp0.i {n : Nat} {d : D} (h : Dp0 n d) (hn : n ≤ 50) : OkI d := ⟨h.ty, let ⟨p, a, b, c⟩ := h.py; ⟨p, a, b, by omega⟩⟩
theorem orC_ok {x0 x1 x2 x3 x4 x5 x6 x7 x8 x9 x10 v11 v12 x13 : Option PV.Tm} {N : Ss → Prop} {R : PV.Tm → Ss → Prop} {B C : Ss → Prop} {X : PX}
    (h : ∀ v11 v12, R (.v .F (.bl true)) [x0, x1, x2, x3, x4, x5, x6, x7, x8, x9, x10, v11, v12, x13]) : SW orC [x0, x1, x2, x3, x4, x5, x6, x7, x8, x9, x10, v11, v12, x13] N R B C X := by
  unfold orC
  walk_at "wp"
  rw [show (46 : Int).toNat = 46 from rfl]
  refine ForW.num (fun i ρ => ∃ (k : Kd) (d : D) (v12 : Option PV.Tm), (k = .O ∨ k = .F) ∧ ρ = [x0, x1, x2, x3, x4, x5, x6, x7, x8, x9, x10, some (.v k d), v12, x13] ∧ Dp0 (i + 1) d ∧ OkS d ∧ ((∃ xs, d = .lst xs) ∨ ∃ x, d = .tup [x])) _ 0 ⟨.O, .lst [], _, .inl rfl, rfl, Dp0.nil, okS_nt rfl (by decide), .inl ⟨_, rfl⟩⟩ ?_ ?_
  · rintro i t ρ ht ⟨k, d, v12, hk, rfl, hd, hs, hni⟩
    obtain ⟨hi, rfl⟩ := rngL_at ht
    rw [Nat.zero_add] at hd ⊢
    rcases hk with rfl | rfl
    all_goals
      walk_at "wp"
      refine ⟨_, _, _, _, _, Is.v, Is.v, eqD_int _ _, ?_⟩
      refine BoW.d (fun hg => ?_) fun hg => ?_
      · walk_at "wp"
        exact ⟨.O, _, _, .inl rfl, rfl, hd.lst, okS_nt rfl (by decide), .inl ⟨_, rfl⟩⟩
      · walk_at "wp"
        exact ⟨.F, _, _, .inr rfl, rfl, hd.tup, okS_tup (by simp) fun x hx => by rw [List.mem_singleton.mp hx]; exact hd.i (by omega), .inr ⟨_, rfl⟩⟩
  · rintro ρ ⟨k, d, v12, hk, rfl, hd, hs, hni⟩
    rw [show 0 + (rngL 0 46).length = 46 from rfl] at hd
    have hi := hd.i (by omega)
    have n1 : tv [1] [1] (.lst [d]) = false := by
      have e : step1 [1] d = none := step1_none fun x y z e => by
        rcases hni with ⟨xs, q⟩ | ⟨w, q⟩
        · rw [q] at e; cases e
        · rw [q] at e; injection e with e; injection e with _ e; cases e
      simp only [tv, run1, e]
    have n2 : tv [1] [1] (.lst [.tup [.int 1, d, .int 1]]) = false := by
      have e : step1 [1] (.tup [.int 1, d, .int 1]) = none := step1_none fun x y z e => by
        injection e with e
        injection e with _ e
        injection e with e _
        rcases hni with ⟨xs, q⟩ | ⟨w, q⟩
        · rw [q] at e; cases e
        · rw [q] at e; cases e
      simp only [tv, run1, e]
    rcases hk with rfl | rfl
    all_goals
      walk_at "wp"
      refine FW.isT (a := [1]) (b := [1]) (by simp) (okV_lst (ss := [d]) (by simp) fun s q => by rw [List.mem_singleton.mp q]; exact hs) ?_
      rw [n1]
      walk_at "wp"
      refine ⟨_, _, _, _, Is.v, Is.v, ?_⟩
      refine BoW.tt ?_
      walk_at "wp"
      refine FW.isT (a := [1]) (b := [1]) (by simp) (okV_lst (ss := [.tup [.int 1, d, .int 1]]) (by simp) fun s q => by rw [List.mem_singleton.mp q]; exact okS_3 (okI_int _) hi (okI_int _)) ?_
      rw [n2]
      walk_at "wp"
      refine ⟨_, _, _, _, Is.v, Is.v, ?_⟩
      exact h _ _
theorem okV_app {ss : List (Int × Int × Int)} {xs : List D} (hl : ss.length ≤ 20) (h : ∀ s ∈ xs, OkS s) (hx : xs.length ≤ 100) : OkV (.lst (ss.map sD ++ xs)) := okV_lst (by rw [List.length_append, List.length_map]; omega) fun s hs => by
  rcases List.mem_append.mp hs with hs | hs
  · exact okS_ss s hs
  · exact h s hs
theorem okV_pre {ss : List (Int × Int × Int)} {xs : List D} (hl : ss.length ≤ 20) (h : ∀ s ∈ xs, OkS s) (hx : xs.length ≤ 100) : OkV (.lst (xs ++ ss.map sD)) := okV_lst (by rw [List.length_append, List.length_map]; omega) fun s hs => by
  rcases List.mem_append.mp hs with hs | hs
  · exact h s hs
  · exact okS_ss s hs
theorem orB_ok {x3 x4 x5 x6 x7 x9 x10 v11 v12 x13 : Option PV.Tm} {a b : List Int} {nd : List D} {d s : Int} {k8 : Kd} {N : Ss → Prop} {R : PV.Tm → Ss → Prop} {B C : Ss → Prop} {X : PX} (lb : b.length ≤ 100) (hnd : ∀ o ∈ nd, OkV o) (hk : k8 = .O ∨ k8 = .F)
    (h : ∀ x8 x10 v11 v12, R (.v .F (.bl true)) [some (feedT d s), some (.v .B (lI b)), some (.v .F (lI a)), x3, x4, x5, x6, x7, x8, x9, x10, v11, v12, x13]) : SW orB [some (feedT d s), some (.v .B (lI b)), some (.v .F (lI a)), x3, x4, x5, x6, x7, some (.v k8 (.lst nd)), x9, x10, v11, v12, x13] N R B C X := by
  unfold orB
  have go : ∀ {R' : PV.Tm → Ss → Prop} {B C : Ss → Prop}, (∀ x8 x10 v11 v12, R' (.v .F (.bl true)) [some (feedT d s), some (.v .B (lI b)), some (.v .F (lI a)), x3, x4, x5, x6, x7, x8, x9, x10, v11, v12, x13]) → ∀ x8 x10, SW (sSeq (sIf (eOr (eNotB (eCall den_is_transfers [.b, .b, .b] (gCons (eLst (gCons (eC (.int 2)) (gCons (eC (.int 2)) gNil))) (gCons (eLst (gCons (eC (.int 1)) (gCons (eC (.int 3)) gNil))) (gCons (eLst (gCons (eTup (gCons (eC (.int 1)) (gCons (eC (.int 3)) (gCons (eNeg (eC (.int 1))) gNil)))) gNil)) gNil)))) (eC (.bl false))) (eNotB (eCall den_is_transfers [.b, .b, .b] (gCons (eLst (gCons (eC (.int 3)) (gCons (eC (.int 3)) gNil))) (gCons (eLst (gCons (eC (.int 0)) (gCons (eC (.int 6)) gNil))) (gCons (eLst (gCons (eTup (gCons (eC (.int 6)) (gCons (eC (.int 0)) (gCons (eC (.int 3)) gNil)))) gNil)) gNil)))) (eC (.bl true))))
    (sRet (eC (.bl false)))
    sNil)
    orC) [some (feedT d s), some (.v .B (lI b)), some (.v .F (lI a)), x3, x4, x5, x6, x7, x8, x9, x10, v11, v12, x13] N R' B C X := fun hR x8 x10 => by
    refine SW.seq ?_
    walk_at "wp"
    refine FW.isT (a := [2, 2]) (b := [1, 3]) (by simp) (okV_lst (ss := [sD (1, 3, -1)]) (by simp) (okS_ss (ss := [(1, 3, -1)]))) ?_
    rw [show tv [2, 2] [1, 3] (.lst [sD (1, 3, -1)]) = false from by decide +kernel]
    walk_at "wp"
    refine ⟨_, _, _, _, Is.v, Is.v, ?_⟩
    refine BoW.ff ?_
    walk_at "wp"
    refine FW.isT (a := [3, 3]) (b := [0, 6]) (by simp) (okV_lst (ss := [sD (6, 0, 3)]) (by simp) (okS_ss (ss := [(6, 0, 3)]))) ?_
    rw [show tv [3, 3] [0, 6] (.lst [sD (6, 0, 3)]) = true from by
      have e : run1 [0, 6] [sD (6, 0, 3)] = some [3, 3] := by decide +kernel
      simp only [tv, e, decide_true]]
    walk_at "wp"
    refine ⟨_, _, _, _, Is.v, Is.v, ?_⟩
    refine BoW.ff ?_
    walk_at "wp"
    exact orC_ok (hR x8 x10)
  refine SW.seq ?_
  rcases hk with rfl | rfl
  all_goals
    walk_at "wp"
    refine ForW.inv (inj := PV.Tm.v .F) (fun _ ρ => ∃ x10, ρ = [some (feedT d s), some (.v .B (lI b)), some (.v .F (lI a)), x3, x4, x5, x6, x7, some (.v .F (.lst nd)), x9, x10, v11, v12, x13]) nd [] ⟨_, rfl⟩ ?_ ?_
    · rintro as p x q ρ ha hp ⟨x10, rfl⟩
      have hx : OkV x := hnd x (by rw [← List.nil_append nd, ← ha, hp]; simp)
      walk_at "wp"
      refine FW.isT lb hx ?_
      walk_at "wp"
      refine Rp3W.bl Is.v ?_
      walk_at "wp"
      refine FW.leadsV lb hx ?_
      walk_at "wp"
      refine Rp3W.bl Is.v ?_
      refine ⟨_, _, _, _, _, Is.v, Is.v, neD_str _ _, ?_⟩
      refine BoW.d (fun hh => absurd rfl hh) fun _ => ?_
      walk_at "wp"
      exact ⟨_, rfl⟩
    · rintro ρ ⟨x10, rfl⟩
      exact go h _ _
theorem strOk_of (s : String) : PyData.strOk (PySem.Str.ofString s) = true := by
  unfold PyData.strOk
  rw [PySem.Str.ofString_eq_toList]
  simp only [List.all_toArray, List.all_map, List.all_eq_true, Function.comp, decide_eq_true_eq]
  intro c _
  rcases c.valid with h | ⟨_, h⟩
  · exact Nat.lt_trans h (by decide)
  · exact h
theorem okI_str (s : String) : OkI (.str (PySem.Str.ofString s)) := ⟨⟨_, rfl⟩, _, rfl, strOk_of s, by simp [PyData.depth]⟩
theorem orTurn_ok {x0 x1 x2 v9 v10 v11 v12 : Option PV.Tm} {ss : List (Int × Int × Int)} {sm : Option PV.Tm} {nd : List D} {q : Int × Int × Int} {N : Ss → Prop} {R : PV.Tm → Ss → Prop} {B C : Ss → Prop} {X : PX} (hl : ss.length ≤ 9) (hq : stB q) (hnd : ∀ o ∈ nd, OkV o) (hz : nd.length ≤ 100)
    (h : ∀ nd' v9, (∀ o ∈ nd', OkV o) → nd'.length = nd.length + 9 → N [x0, x1, x2, some (.v .F (.lst (ss.map sD))), sm, some (.v .F (.int q.1)), some (.v .F (.int q.2.1)), some (.v .F (.int q.2.2)), some (.v .O (.lst nd')), v9, v10, v11, v12, none]) :
    SW orTurn [x0, x1, x2, some (.v .F (.lst (ss.map sD))), sm, some (.v .F (.int q.1)), some (.v .F (.int q.2.1)), some (.v .F (.int q.2.2)), some (.v .O (.lst nd)), v9, v10, v11, v12, none] N R B C X := by
  obtain ⟨hi, lo, mv⟩ := q
  have hlo : lo.natAbs.log2 < 1920 := by
    have := log_sh (show Sh lo from by have := hq.2.1; unfold Sh; simp only at this; omega)
    omega
  unfold orTurn
  walk_at "wp"
  refine ⟨_, _, Is.v, hlo, ?_⟩
  walk_at "wp"
  refine CpW.map (inj := PV.Tm.v .F) (fun _ => true) (fun x => .lst ([x] ++ ss.map sD)) _ (fun _ => rfl) rfl (fun x _ => by walk_at "cp") (fun x hx _ => ?_) (by rw [filt_true, List.length_map, sizeLine_eq]; show 6 ≤ _; omega) ?_
  · refine ⟨_, (by walk_at "set"), ?_⟩
    walk_at "wp"
    refine AddW.ll (by walk_at "is") (by walk_at "is") elkO elkF (by rw [List.length_map, sizeLine_eq]; show 1 + _ ≤ _; omega) ?_
    walk_at "wp"
    all_goals (first | exact ⟨rfl, rfl⟩ | exact rfl)
  rw [filt_true]
  refine AddW.ll (by walk_at "is") (by walk_at "is") elkO elkO (by rw [List.length_map, sizeLine_eq]; show _ + 6 ≤ _; omega) ?_
  walk_at "wp"
  refine AddW.ll (by walk_at "is") (by walk_at "is") elkF elkO (by rw [List.length_map, sizeLine_eq]; show _ + 1 ≤ _; omega) ?_
  walk_at "wp"
  refine AddW.ll (by walk_at "is") (by walk_at "is") elkF elkO (by rw [List.length_map, sizeLine_eq]; show _ + 1 ≤ _; omega) ?_
  walk_at "wp"
  refine AddW.ll (by walk_at "is") (by walk_at "is") elkO elkO (by rw [List.length_append, sizeLine_eq, List.length_map]; show _ + 6 + 2 ≤ _; omega) ?_
  walk_at "wp"
  refine AddW.ll (by walk_at "is") (by walk_at "is") elkO elkF (by rw [List.length_map, sizeLine_eq]; show 2 + _ ≤ _; omega) ?_
  walk_at "wp"
  refine h (_ ++ _ ++ [_, _] ++ [_]) _ ?_ (by simp only [List.length_append, List.length_map, List.length_cons, List.length_nil])
  intro o ho
  rcases List.mem_append.mp ho with ho | ho
  · rcases List.mem_append.mp ho with ho | ho
    · rcases List.mem_append.mp ho with ho | ho
      · exact hnd o ho
      · obtain ⟨x, hx, rfl⟩ := List.mem_map.mp ho
        refine okV_pre (by omega) (fun s hs => ?_) (by simp)
        rw [List.mem_singleton.mp hs]
        simp only [List.mem_cons, List.not_mem_nil, or_false] at hx
        rcases hx with rfl | rfl | rfl | rfl | rfl | rfl
        · exact okS_3 (okI_int _) okI_non (okI_int _)
        · exact okS_3 (okI_int _) (okI_str _) (okI_int _)
        · exact okS_3 okI_non (okI_int _) (okI_int _)
        · exact okS_3 (okI_int _) (okI_l1 _) (okI_int _)
        · exact okS_tup (by simp) fun y hy => absurd hy List.not_mem_nil
        · exact okS_3 (okI_int _) (okI_int _) (okI_int _)
    · simp only [List.mem_cons, List.not_mem_nil, or_false] at ho
      rcases ho with rfl | rfl
      · exact okV_app (by omega) (fun s hs => by rw [List.mem_singleton.mp hs]; exact okS_3 (okI_int _) (okI_int _) (okI_int _)) (by simp)
      · exact okV_app (by omega) (fun s hs => by
          rw [List.mem_singleton.mp hs]
          exact okS_tup (by simp) fun y hy => by
            simp only [List.mem_cons, List.not_mem_nil, or_false] at hy
            rcases hy with rfl | rfl | rfl | rfl <;> exact okI_int _) (by simp)
  · rw [List.mem_singleton.mp ho]
    refine okV_pre (by omega) (fun s hs => ?_) (by simp)
    simp only [List.mem_cons, List.not_mem_nil, or_false] at hs
    rcases hs with rfl | rfl <;> exact okS_3 (okI_int _) (okI_int _) (okI_int _)
/-! k21: the law's own steps, told as they should be -/
theorem orA_ok {x5 x6 x7 x8 x9 x10 v11 v12 : Option PV.Tm} {a b : List Int} {ss : List (Int × Int × Int)} {sm : List D} {d s : Int} {N : Ss → Prop} {R : PV.Tm → Ss → Prop} {B C : Ss → Prop} {X : PX} (lb : b.length ≤ 100) (hl : ss.length ≤ 9) (hb : ∀ q ∈ ss, stB q) (hsm : ∀ o ∈ sm, OkS o) (hsz : sm.length ≤ 100)
    (h : ∀ ρ : Ss, R (.v .F (.bl true)) (some (feedT d s) :: ρ)) : SW orA [some (feedT d s), some (.v .B (lI b)), some (.v .F (lI a)), some (.v .F (.lst (ss.map sD))), some (.v .O (.lst sm)), x5, x6, x7, x8, x9, x10, v11, v12, none] N R B C X := by
  unfold orA
  walk_at "wp"
  refine AddW.ll (by walk_at "is") (by walk_at "is") elkF elkO (by rw [List.length_map, sizeLine_eq]; show _ + 1 ≤ _; omega) ?_
  walk_at "wp"
  refine SlW.lst (by walk_at "is") elkF (cut_to _ 3) ?_
  rw [← List.map_take]
  walk_at "wp"
  refine ForW.data (fun pre ρ => ∃ (nd : List D) (x5 x6 x7 x9 : Option PV.Tm), ρ = [some (feedT d s), some (.v .B (lI b)), some (.v .F (lI a)), some (.v .F (.lst (ss.map sD))), some (.v .F (.lst sm)), x5, x6, x7, some (.v .O (.lst nd)), x9, x10, v11, v12, none] ∧ (∀ o ∈ nd, OkV o) ∧ nd.length ≤ 3 + 9 * pre.length) (ss.take 3) ⟨_, _, _, _, _, rfl, ?_, ?_⟩ ?_ ?_
  · intro o ho
    simp only [List.mem_cons, List.not_mem_nil, or_false] at ho
    rcases ho with rfl | rfl | rfl
    · exact okV_lst (by rw [List.length_map]; omega) okS_ss
    · exact okV_lst (by omega) hsm
    · exact okV_app (by omega) (fun s hs => by rw [List.mem_singleton.mp hs]; exact okS_3 (okI_int _) (okI_int _) (okI_int _)) (by simp)
  · simp
  · rintro pre ⟨q1, q2, q3⟩ suf ρ hp ⟨nd, x5, x6, x7, x9, rfl, h1, h2⟩
    have hq : stB (q1, q2, q3) := hb _ (List.mem_of_mem_take (by rw [hp]; simp))
    have h3 : pre.length < 3 := by
      have e := congrArg List.length hp
      rw [List.length_take, List.length_append, List.length_cons] at e
      omega
    walk_at "wp"
    refine orTurn_ok (q := (q1, q2, q3)) hl hq h1 (by omega) fun nd' v9 k1 k2 => ⟨nd', _, _, _, v9, rfl, k1, by rw [List.length_append, List.length_singleton]; omega⟩
  · rintro ρ ⟨nd, x5, x6, x7, x9, rfl, h1, h2⟩
    refine orB_ok lb h1 (.inl rfl) fun x8 x10 v11 v12 => ?_
    exact h _
theorem FW.ownright {b : List Int} {d s : Int} {P : PV.Tm → List PV.Tm → Prop} {X : Er → List PV.Tm → Prop} (lb : b.length ≤ 30) (hb : ∀ x ∈ b, 0 ≤ x ∧ x ≤ 1000000) (h : ∀ d' s', P (.v .F (.bl true)) [feedT d' s']) : FW den__law_own_right [feedT d s, .v .B (lI b)] P X := by
  refine FW.def (ρ0 := [some (feedT d s), some (.v .B (lI b)), none, none, none, none, none, none, none, none, none, none, none, none]) rfl ?_
  rw [or_eq]
  refine SW.seq ?_
  walk_at "wp"
  refine FW.ownsteps lb hb fun g ss d s hg hl hs => ?_
  walk_at "wp"
  refine ForW.data (fun pre ρ => ∃ (sm : List D) (x5 x6 x7 : Option PV.Tm), ρ = [some (feedT d s), some (.v .B (lI b)), some (.v .F (lI g)), some (.v .F (.lst (ss.map sD))), some (.v .O (.lst sm)), x5, x6, x7, none, none, none, none, none, none] ∧ (∀ o ∈ sm, OkS o) ∧ sm.length ≤ 2 * pre.length) ss ⟨[], _, _, _, rfl, fun o ho => absurd ho List.not_mem_nil, by simp⟩ ?_ ?_
  · rintro pre ⟨q1, q2, q3⟩ suf ρ hp ⟨sm, x5, x6, x7, rfl, h1, h2⟩
    have h3 : pre.length < ss.length := by rw [hp]; simp
    have fin : ∀ (n : Nat), n ≤ 2 → (fun ρ => ∃ (sm : List D) (x5 x6 x7 : Option PV.Tm), ρ = [some (feedT d s), some (.v .B (lI b)), some (.v .F (lI g)), some (.v .F (.lst (ss.map sD))), some (.v .O (.lst sm)), x5, x6, x7, none, none, none, none, none, none] ∧ (∀ o ∈ sm, OkS o) ∧ sm.length ≤ 2 * (pre ++ [(q1, q2, q3)]).length) [some (feedT d s), some (.v .B (lI b)), some (.v .F (lI g)), some (.v .F (.lst (ss.map sD))), some (.v .O (.lst (sm ++ [.tup [.int q1, .int q2, .int 1], .tup [.int (q1 - 1), .int (q2 + 1), .int (q3 - 1)]].take n))), some (.v .F (.int q1)), some (.v .F (.int q2)), some (.v .F (.int q3)), none, none, none, none, none, none] := fun n hn => by
      refine ⟨_, _, _, _, rfl, fun o ho => ?_, ?_⟩
      · rcases List.mem_append.mp ho with ho | ho
        · exact h1 o ho
        · have := List.mem_of_mem_take ho
          simp only [List.mem_cons, List.not_mem_nil, or_false] at this
          rcases this with rfl | rfl <;> exact okS_3 (okI_int _) (okI_int _) (okI_int _)
      · rw [List.length_append, List.length_append, List.length_take]
        show sm.length + min n 2 ≤ 2 * (pre.length + 1)
        omega
    generalize (fun ρ : Ss => ∃ (sm : List D) (x5 x6 x7 : Option PV.Tm), ρ = [some (feedT d s), some (.v .B (lI b)), some (.v .F (lI g)), some (.v .F (.lst (ss.map sD))), some (.v .O (.lst sm)), x5, x6, x7, none, none, none, none, none, none] ∧ (∀ o ∈ sm, OkS o) ∧ sm.length ≤ 2 * (pre ++ [(q1, q2, q3)]).length) = NN at fin ⊢
    walk_at "wp"
    refine ⟨_, _, Is.v, ?_⟩
    walk_at "wp"
    by_cases c : 1 < q3
    · rw [decide_eq_true c, if_pos rfl, show (1 : Int) + 1 = ((2 : Nat) : Int) from rfl]
      refine SlW.lst (by walk_at "is") elkO (cut_to _ 2) ?_
      refine AddW.ll (by walk_at "is") (by walk_at "is") elkO elkO (by rw [sizeLine_eq]; show _ + 2 ≤ _; omega) ?_
      walk_at "wp"
      exact fin 2 (by omega)
    · rw [decide_eq_false c, if_neg (by decide), show (1 : Int) + 0 = ((1 : Nat) : Int) from rfl]
      refine SlW.lst (by walk_at "is") elkO (cut_to _ 1) ?_
      refine AddW.ll (by walk_at "is") (by walk_at "is") elkO elkO (by rw [sizeLine_eq]; show _ + 1 ≤ _; omega) ?_
      walk_at "wp"
      exact fin 1 (by omega)
  · rintro ρ ⟨sm, x5, x6, x7, rfl, h1, h2⟩
    refine orA_ok (by omega) hl hs h1 (by omega) fun ρ => ?_
    walk_at "wp"
    exact h _ _
/-! k21: data with a text -/
def It (d : D) : Prop := OkI d ∧ ∃ p, ShD 2 60 d p
def St (d : D) : Prop := OkS d ∧ ∃ p, ShD 6 400 d p
def ShV (d : D) : Prop := ∃ p, ShD 10 60000 d p
theorem sh1 {i : Int} (h : Sh i) : ShD 0 40 (.int i) (.int i) := by
  have h1 := show_ints [i] (fun x hx => by rw [List.mem_singleton.mp hx]; exact h)
  have h2 := leaf_ints [i] (fun x hx => by rw [List.mem_singleton.mp hx]; exact h)
  have h3 := wt_ints [i] (fun x hx => by rw [List.mem_singleton.mp hx]; exact h)
  simp only [List.map_cons, List.map_nil, PyData.showableAll, Bool.and_true] at h1
  simp only [List.map_cons, List.map_nil, PyData.leavesShortAll, Bool.and_true] at h2
  simp only [List.map_cons, List.map_nil, PyData.weightAll, List.length_cons, List.length_nil] at h3
  exact ⟨rfl, h1, h2, by simp [PyData.depth], by omega⟩
theorem it_int {i : Int} (h : Sh i) : It (.int i) := ⟨okI_int i, _, (sh1 h).mono (by omega) (by omega)⟩
theorem it_non : It .non := ⟨okI_non, .none, by simp [toPyE], by simp [PyData.showable], by simp [PyData.leavesShort], by simp [PyData.depth], by simp [PyData.weight]⟩
theorem it_bl (b : Bool) : It (.bl b) := ⟨okI_bl b, .bool b, by simp [toPyE], by simp [PyData.showable], by simp [PyData.leavesShort], by simp [PyData.depth], by simp [PyData.weight]⟩
theorem it_one : It (.str "1") := ⟨okI_str _, .str "1", by simp [toPyE], by simp [PyData.showable], by decide +kernel, by simp [PyData.depth], by decide +kernel⟩
theorem it_l1 {i : Int} (h : Sh i) : It (.lst [.int i]) := ⟨okI_l1 i, _, ((ShDs.cons (sh1 h) .nil).lst).mono (by omega) (by omega)⟩
theorem its {m : Nat} : ∀ {xs : List D}, (∀ x ∈ xs, It x) → xs.length ≤ m → ∃ ps, ShDs 2 (61 * m) xs ps
  | [], _, _ => ⟨[], ShDs.nil.mono (by omega) (by omega)⟩
  | x :: xs, h, hl => by
    obtain ⟨p, hp⟩ := (h x List.mem_cons_self).2
    rw [List.length_cons] at hl
    obtain ⟨ps, hps⟩ := its (m := m - 1) (fun y hy => h y (List.mem_cons_of_mem _ hy)) (by omega)
    exact ⟨p :: ps, (ShDs.cons hp hps).mono (by omega) (by omega)⟩
theorem sts {m : Nat} : ∀ {xs : List D}, (∀ x ∈ xs, St x) → xs.length ≤ m → ∃ ps, ShDs 6 (401 * m) xs ps
  | [], _, _ => ⟨[], ShDs.nil.mono (by omega) (by omega)⟩
  | x :: xs, h, hl => by
    obtain ⟨p, hp⟩ := (h x List.mem_cons_self).2
    rw [List.length_cons] at hl
    obtain ⟨ps, hps⟩ := sts (m := m - 1) (fun y hy => h y (List.mem_cons_of_mem _ hy)) (by omega)
    exact ⟨p :: ps, (ShDs.cons hp hps).mono (by omega) (by omega)⟩
theorem st_tup {xs : List D} (h : ∀ x ∈ xs, It x) (hl : xs.length ≤ 5) : St (.tup xs) := by
  obtain ⟨ps, hp⟩ := its h hl
  exact ⟨okS_tup (by omega) fun x hx => (h x hx).1, _, hp.tup.mono (by omega) (by omega)⟩
theorem st_3 {a b c : D} (ha : It a) (hb : It b) (hc : It c) : St (.tup [a, b, c]) := st_tup (fun x hx => by
  simp only [List.mem_cons, List.not_mem_nil, or_false] at hx
  rcases hx with rfl | rfl | rfl <;> assumption) (by simp)
theorem st_l3 {a b c : D} (ha : It a) (hb : It b) (hc : It c) : St (.lst [a, b, c]) := by
  obtain ⟨ps, hp⟩ := its (m := 3) (xs := [a, b, c]) (fun x hx => by
    simp only [List.mem_cons, List.not_mem_nil, or_false] at hx
    rcases hx with rfl | rfl | rfl <;> assumption) (by simp)
  exact ⟨okS_nt rfl (by decide), _, hp.lst.mono (by omega) (by omega)⟩
theorem st_non : St .non := ⟨okS_nt rfl (by decide), let ⟨p, h⟩ := it_non.2; ⟨p, h.mono (by omega) (by omega)⟩⟩
theorem st_dK : St (.dK [] []) := ⟨okS_nt (t := .dic) rfl (by decide), .dict [], by simp [toPyE, toPyEs], by simp [PyData.showable, PyData.showableKv], by simp [PyData.leavesShort, PyData.leavesShortKv], by simp [PyData.depth, PyData.depthKv], by simp [PyData.weight, PyData.weightKv]⟩
theorem st_sD {s : Int × Int × Int} (h1 : Sh s.1) (h2 : Sh s.2.1) (h3 : Sh s.2.2) : St (sD s) := st_3 (it_int h1) (it_int h2) (it_int h3)
theorem okv_sts {xs : List D} (h : ∀ x ∈ xs, St x) (hl : xs.length ≤ 70) : OkV (.lst xs) ∧ ShV (.lst xs) := by
  obtain ⟨ps, hp⟩ := sts h hl
  exact ⟨okV_lst (by omega) fun s hs => (h s hs).1, _, hp.lst.mono (by omega) (by omega)⟩
theorem okv_tup {xs : List D} (h : ∀ x ∈ xs, St x) (hl : xs.length ≤ 70) : OkV (.tup xs) ∧ ShV (.tup xs) := by
  obtain ⟨ps, hp⟩ := sts h hl
  exact ⟨⟨⟨_, rfl⟩, fun ys e => by cases e⟩, _, hp.tup.mono (by omega) (by omega)⟩
theorem okv_l1 {xs : List D} (h : ∀ x ∈ xs, St x) (hl : xs.length ≤ 70) : OkV (.lst [.lst xs]) ∧ ShV (.lst [.lst xs]) := by
  obtain ⟨ps, hp⟩ := sts h hl
  refine ⟨okV_lst (by simp) fun s hs => ?_, _, ((ShDs.cons hp.lst .nil).lst).mono (by omega) (by omega)⟩
  rw [List.mem_singleton.mp hs]
  exact okS_nt rfl (by decide)
theorem okv_non : OkV .non ∧ ShV .non := ⟨⟨⟨_, rfl⟩, fun ys e => by cases e⟩, let ⟨p, h⟩ := it_non.2; ⟨p, h.mono (by omega) (by omega)⟩⟩
theorem okv_dK : OkV (.dK [] []) ∧ ShV (.dK [] []) := ⟨⟨⟨_, rfl⟩, fun ys e => by cases e⟩, let ⟨p, h⟩ := st_dK.2; ⟨p, h.mono (by omega) (by omega)⟩⟩
theorem okv_e : OkV (.str "") ∧ ShV (.str "") := ⟨⟨⟨_, rfl⟩, fun ys e => by cases e⟩, .str "", by simp [toPyE], by simp [PyData.showable], by decide +kernel, by simp [PyData.depth], by decide +kernel⟩
theorem okv_7 : OkV (.int 7) ∧ ShV (.int 7) := ⟨⟨⟨_, rfl⟩, fun ys e => by cases e⟩, _, (sh1 (by unfold Sh; decide)).mono (by omega) (by omega)⟩

/-! k21: values with one thing changed -/
def chB : Sm := (sSeq (sSet 8 (eCall den__law_take [.io, .b] (gCons (eVar 0) (gCons (eC (.int 7)) gNil))))
    (sSeq (sIf (eEq (eVar 8) (eC (.int 0)))
    (sRet (eAdd (eSl (eVar 3) none (some (eVar 4))) (eSl (eVar 3) (some (eAdd (eVar 4) (eC (.int 1)))) none)))
    sNil)
    (sSeq (sIf (eEq (eVar 8) (eC (.int 1)))
    (sRet (eAdd (eAdd (eSl (eVar 3) none (some (eVar 4))) (eLst (gCons (eCall den__law_pick [.io, .f] (gCons (eVar 0) (gCons (eF (eVar 7)) gNil))) gNil))) (eSl (eVar 3) (some (eVar 4)) none)))
    sNil)
    (sSeq (sIf (eEq (eVar 8) (eC (.int 2)))
    (sRet (eAdd (eAdd (eSl (eVar 3) none (some (eVar 4))) (eLst (gCons (eCall den__law_pick [.io, .f] (gCons (eVar 0) (gCons (eF (eVar 7)) gNil))) gNil))) (eSl (eVar 3) (some (eAdd (eVar 4) (eC (.int 1)))) none)))
    sNil)
    (sSeq (sIf (eEq (eVar 8) (eC (.int 3)))
    (sRet (eRev (eVar 3)))
    sNil)
    (sSeq (sIf (eEq (eVar 8) (eC (.int 4)))
    (sRet (eCall den__law_pick [.io, .f] (gCons (eVar 0) (gCons (eF (eLst (gCons (eTuple (eVar 3)) (gCons eN (gCons eDK0 (gCons (eC (.str "")) (gCons (eC (.int 7)) (gCons (eLst (gCons (eF (eVar 3)) gNil)) gNil)))))))) gNil))))
    sNil)
    (sSeq (sIf (eEq (eVar 8) (eC (.int 5)))
    (sRet (eAdd (eAdd (eSl (eVar 3) none (some (eVar 4))) (eComp (itSeq (eSl (eVar 3) (some (eVar 4)) (some (eAdd (eVar 4) (eC (.int 1)))))) [9] (tgN 9) eTrue (eTup (gCons (eIdx (eVar 9) (eC (.int 0))) (gCons (eIdx (eVar 9) (eC (.int 1))) (gCons (eAdd (eIdx (eVar 9) (eC (.int 2))) (eC (.int 1))) gNil)))))) (eSl (eVar 3) (some (eAdd (eVar 4) (eC (.int 1)))) none)))
    sNil)
    (sRet (eAdd (eVar 3) (eVar 3))))))))))
theorem ch_eq : d__law_changed = (sSeq (sSet 3 (eList (eVar 1)))
    (sSeq (sSet 4 (eCall den__law_take [.io, .b] (gCons (eVar 0) (gCons (eAdd (eLen (eVar 3)) (eC (.int 1))) gNil))))
    (sSeq (sPar [5, 6] (gCons (eMin1 (eAdd (eVar 2) (eLst (gCons (eC (.int 9)) gNil)))) (gCons (eMax1 (eAdd (eVar 2) (eLst (gCons (eC (.int 0)) gNil)))) gNil)))
    (sSeq (sSet 7 (eLst (gCons (eTup (gCons (eF (eVar 6)) (gCons (eF (eVar 5)) (gCons (eC (.int 1)) gNil)))) (gCons (eTup (gCons (eF (eVar 6)) (gCons (eF (eVar 5)) (gCons (eC (.int 0)) gNil)))) (gCons (eTup (gCons (eF (eVar 6)) (gCons (eF (eVar 5)) (gCons (eNeg (eC (.int 1))) gNil)))) (gCons (eTup (gCons (eF (eVar 5)) (gCons (eF (eVar 6)) (gCons (eC (.int 1)) gNil)))) (gCons (eTup (gCons (eF (eVar 6)) (gCons (eF (eVar 6)) (gCons (eC (.int 1)) gNil)))) (gCons (eTup (gCons (eAdd (eVar 6) (eC (.int 1))) (gCons (eF (eVar 5)) (gCons (eC (.int 1)) gNil)))) gNil))))))))
    (sSeq (sSet 7 (eAdd (eVar 7) (eLst (gCons (eTup (gCons (eF (eVar 6)) (gCons (eF (eVar 5)) (gCons (eDiv (eSub (eVar 6) (eVar 5)) (eC (.int 2))) gNil)))) (gCons (eTup (gCons (eF (eVar 6)) (gCons (eF (eVar 5)) (gCons (eC (.bl true)) gNil)))) (gCons (eTup (gCons (eF (eVar 6)) (gCons (eC (.bl false)) (gCons (eC (.int 1)) gNil)))) (gCons (eLst (gCons (eF (eVar 6)) (gCons (eF (eVar 5)) (gCons (eC (.int 1)) gNil)))) (gCons (eTup (gCons (eF (eVar 6)) (gCons (eF (eVar 5)) gNil))) (gCons eN gNil)))))))))
    (sSeq (sSet 7 (eAdd (eVar 7) (eLst (gCons (eTup (gCons (eF (eVar 6)) (gCons (eF (eVar 5)) (gCons (eC (.str "1")) gNil)))) (gCons (eTup (gCons (eLst (gCons (eF (eVar 6)) gNil)) (gCons (eF (eVar 5)) (gCons (eC (.int 1)) gNil)))) (gCons eDK0 (gCons (eTup (gCons (eF (eVar 6)) (gCons (eF (eVar 5)) (gCons (eAdd (eDiv (eSub (eVar 6) (eVar 5)) (eC (.int 2))) (eC (.int 1))) gNil)))) (gCons (eTup (gCons (eF (eVar 6)) (gCons (eF (eVar 5)) (gCons (eSub (eVar 6) (eVar 5)) gNil)))) gNil))))))))
    chB)))))) := rfl
theorem cut_from1 {α : Type} (xs : List α) (k : Nat) : cutD xs (some ((k : Int) + 1)) none = xs.drop (k + 1) := cut_from xs (k + 1)
theorem elkBs {ss : List (Int × Int × Int)} : elk .B (ss.map sD) = some (ss.map sD) := by
  unfold elk
  rw [if_pos]
  rw [List.all_eq_true]
  intro d hd
  obtain ⟨i, _, rfl⟩ := List.mem_map.mp hd
  simp [PV.flat, PV.flat.flats]
theorem chB_ok {x1 x2 v5 v6 x8 : Option PV.Tm} {ss : List (Int × Int × Int)} {od : List D} {n : Nat} {d s : Int} {N : Ss → Prop} {R : PV.Tm → Ss → Prop} {B C : Ss → Prop} {X : PX} (hl : ss.length ≤ 30) (hb : ∀ q ∈ ss, stB q) (h0 : 0 < od.length) (h1 : od.length ≤ 30) (hod : ∀ t ∈ od, St t)
    (h : ∀ k o d s (ρ : Ss), (k = .O ∨ k = .F) → OkV o ∧ ShV o → R (.v k o) (some (feedT d s) :: ρ)) : SW chB [some (feedT d s), x1, x2, some (.v .O (.lst (ss.map sD))), some (.v .F (.int (n : Int))), v5, v6, some (.v .O (.lst od)), x8, none] N R B C X := by
  have hF : ∀ t ∈ ss.map sD, St t := fun t ht => by
    obtain ⟨q, hq, rfl⟩ := List.mem_map.mp ht
    have z := hb q hq
    exact st_sD (by have := z.1; unfold Sh; omega) (by have := z.2.1; unfold Sh; omega) (by have := z.2.2; unfold Sh; omega)
  have lF : (ss.map sD).length ≤ 30 := by rw [List.length_map]; exact hl
  have e1 : ((n : Int) + 1) = ((n + 1 : Nat) : Int) := rfl
  unfold chB
  walk_at "wp"
  refine FW.tk (by omega) (by omega) fun r d s lo hi => ?_
  walk_at "wp"
  refine ⟨_, _, _, _, _, Is.v, Is.v, eqD_int _ _, ?_⟩
  refine BoW.d (fun c => ?_) fun c => ?_
  · walk_at "wp"
    refine SlW.lst (by walk_at "is") elkO (cut_to _ n) ?_
    walk_at "wp"
    refine SlW.lst (by walk_at "is") elkO (cut_from1 _ n) ?_
    refine AddW.ll (by walk_at "is") (by walk_at "is") elkO elkO (by rw [List.length_take, List.length_drop, sizeLine_eq]; omega) ?_
    walk_at "wp"
    refine h _ _ _ _ _ (by first | exact .inl rfl | exact .inr rfl) (okv_sts (fun t ht => ?_) (by rw [List.length_append, List.length_take, List.length_drop]; omega))
    rcases List.mem_append.mp ht with ht | ht
    · exact hF t (List.mem_of_mem_take ht)
    · exact hF t (List.mem_of_mem_drop ht)
  walk_at "wp"
  refine ⟨_, _, _, _, _, Is.v, Is.v, eqD_int _ _, ?_⟩
  refine BoW.d (fun c => ?_) fun c => ?_
  · walk_at "wp"
    refine SlW.lst (by walk_at "is") elkO (cut_to _ n) ?_
    walk_at "wp"
    refine FW.pk h0 (by omega) fun x d s hx => ?_
    walk_at "wp"
    refine AddW.ll (by walk_at "is") (by walk_at "is") elkO elkO (by rw [List.length_take, sizeLine_eq]; show _ + 1 ≤ _; omega) ?_
    walk_at "wp"
    refine SlW.lst (by walk_at "is") elkO (cut_from _ n) ?_
    refine AddW.ll (by walk_at "is") (by walk_at "is") elkO elkO (by rw [List.length_append, List.length_take, List.length_drop, sizeLine_eq]; show _ + 1 + _ ≤ _; omega) ?_
    walk_at "wp"
    refine h _ _ _ _ _ (by first | exact .inl rfl | exact .inr rfl) (okv_sts (fun t ht => ?_) (by rw [List.length_append, List.length_append, List.length_take, List.length_drop]; show _ + 1 + _ ≤ _; omega))
    rcases List.mem_append.mp ht with ht | ht
    · rcases List.mem_append.mp ht with ht | ht
      · exact hF t (List.mem_of_mem_take ht)
      · rw [List.mem_singleton.mp ht]; exact hod x hx
    · exact hF t (List.mem_of_mem_drop ht)
  walk_at "wp"
  refine ⟨_, _, _, _, _, Is.v, Is.v, eqD_int _ _, ?_⟩
  refine BoW.d (fun c => ?_) fun c => ?_
  · walk_at "wp"
    refine SlW.lst (by walk_at "is") elkO (cut_to _ n) ?_
    walk_at "wp"
    refine FW.pk h0 (by omega) fun x d s hx => ?_
    walk_at "wp"
    refine AddW.ll (by walk_at "is") (by walk_at "is") elkO elkO (by rw [List.length_take, sizeLine_eq]; show _ + 1 ≤ _; omega) ?_
    walk_at "wp"
    refine SlW.lst (by walk_at "is") elkO (cut_from1 _ n) ?_
    refine AddW.ll (by walk_at "is") (by walk_at "is") elkO elkO (by rw [List.length_append, List.length_take, List.length_drop, sizeLine_eq]; show _ + 1 + _ ≤ _; omega) ?_
    walk_at "wp"
    refine h _ _ _ _ _ (by first | exact .inl rfl | exact .inr rfl) (okv_sts (fun t ht => ?_) (by rw [List.length_append, List.length_append, List.length_take, List.length_drop]; show _ + 1 + _ ≤ _; omega))
    rcases List.mem_append.mp ht with ht | ht
    · rcases List.mem_append.mp ht with ht | ht
      · exact hF t (List.mem_of_mem_take ht)
      · rw [List.mem_singleton.mp ht]; exact hod x hx
    · exact hF t (List.mem_of_mem_drop ht)
  walk_at "wp"
  refine ⟨_, _, _, _, _, Is.v, Is.v, eqD_int _ _, ?_⟩
  refine BoW.d (fun c => ?_) fun c => ?_
  · walk_at "wp"
    refine ⟨.O, ss.map sD, by walk_at "is", elkO, ?_⟩
    walk_at "wp"
    exact h _ _ _ _ _ (by first | exact .inl rfl | exact .inr rfl) (okv_sts (fun t ht => hF t (List.mem_reverse.mp ht)) (by rw [List.length_reverse]; omega))
  walk_at "wp"
  refine ⟨_, _, _, _, _, Is.v, Is.v, eqD_int _ _, ?_⟩
  refine BoW.d (fun c => ?_) fun c => ?_
  · walk_at "wp"
    refine ⟨_, ss.map sD, .inl (by walk_at "is"), elkO, ?_⟩
    walk_at "wp"
    refine FW.pk (by simp) (by simp) fun x d s hx => ?_
    walk_at "wp"
    refine h _ _ _ _ _ (.inr rfl) ?_
    simp only [List.mem_cons, List.not_mem_nil, or_false] at hx
    rcases hx with rfl | rfl | rfl | rfl | rfl | rfl
    · exact okv_tup hF (by omega)
    · exact okv_non
    · exact okv_dK
    · exact okv_e
    · exact okv_7
    · exact okv_l1 hF (by omega)
  walk_at "wp"
  refine ⟨_, _, _, _, _, Is.v, Is.v, eqD_int _ _, ?_⟩
  refine BoW.d (fun c => ?_) fun c => ?_
  · walk_at "wp"
    refine SlW.lst (by walk_at "is") elkO (cut_to _ n) ?_
    walk_at "wp"
    refine SlW.lst (ys := ((ss.drop n).take 1).map sD) (by walk_at "is") elkO (show cutD _ (some (n : Int)) (some ((n : Int) + 1)) = _ from by rw [cut_mid1, List.map_take, List.map_drop, show n + 1 - n = 1 by omega]) ?_
    walk_at "wp"
    rw [List.map_map]
    have lt : ((ss.drop n).take 1).length ≤ 1 := by rw [List.length_take]; omega
    refine CpW.map (inj := PV.Tm.v .F ∘ sD) (fun _ => true) (fun q => sD (q.1, q.2.1, q.2.2 + 1)) _ (fun _ => rfl) rfl (fun x _ => by walk_at "cp") (fun x hx _ => ?_) (by rw [filt_true, List.length_map, sizeLine_eq]; omega) ?_
    · refine ⟨_, (by walk_at "set"), ?_⟩
      show EW _ [some (feedT d s), x1, x2, some (.v .O (.lst (ss.map sD))), some (.v .F (.int (n : Int))), v5, v6, some (.v .O (.lst od)), some (.v .F (.int r)), some (.v .F (.tup [.int x.1, .int x.2.1, .int x.2.2]))] _ _
      walk_at "wp"
      all_goals (first | exact ⟨rfl, rfl⟩ | exact rfl)
    rw [filt_true]
    refine AddW.ll (by walk_at "is") (by walk_at "is") elkO elkO (by rw [sizeLine_eq]; simp only [List.length_take, List.length_map]; omega) ?_
    walk_at "wp"
    refine SlW.lst (by walk_at "is") elkO (cut_from1 _ n) ?_
    refine AddW.ll (by walk_at "is") (by walk_at "is") elkO elkO (by rw [sizeLine_eq]; simp only [List.length_append, List.length_take, List.length_drop, List.length_map]; omega) ?_
    walk_at "wp"
    refine h _ _ _ _ _ (by first | exact .inl rfl | exact .inr rfl) (okv_sts (fun t ht => ?_) (by simp only [List.length_append, List.length_take, List.length_drop, List.length_map]; omega))
    rcases List.mem_append.mp ht with ht | ht
    · rcases List.mem_append.mp ht with ht | ht
      · exact hF t (List.mem_of_mem_take ht)
      · obtain ⟨q, hq, rfl⟩ := List.mem_map.mp ht
        have z := hb q (List.mem_of_mem_drop (List.mem_of_mem_take hq))
        exact st_sD (by have := z.1; unfold Sh; show q.1.natAbs < _; omega) (by have := z.2.1; unfold Sh; show q.2.1.natAbs < _; omega) (by have := z.2.2; unfold Sh; show (q.2.2 + 1).natAbs < _; omega)
    · exact hF t (List.mem_of_mem_drop ht)
  walk_at "wp"
  refine AddW.ll (by walk_at "is") (by walk_at "is") elkO elkO (by rw [sizeLine_eq]; omega) ?_
  walk_at "wp"
  refine h _ _ _ _ _ (by first | exact .inl rfl | exact .inr rfl) (okv_sts (fun t ht => ?_) (by rw [List.length_append]; omega))
  rcases List.mem_append.mp ht with ht | ht <;> exact hF t ht
/-! k21: steps that lead, by their numbers -/
theorem isort_congr {xs ys : List Int} (h : xs.Perm ys) : isort xs = isort ys := isort_of ((isort_perm _).trans h) (isort_up _)
theorem Leads.bd {b g : List Int} {ss : List (Int × Int × Int)} (h : Leads b ss g) (hb : ∀ x ∈ b, 0 ≤ x ∧ x ≤ 1000000) : ∀ q ∈ ss, stB q := by
  obtain ⟨fs, h0, h1, _⟩ := h
  have all : ∀ i, i ≤ ss.length → ∀ x ∈ fs i, 0 ≤ x ∧ x ≤ 1000000 := by
    intro i
    induction i with
    | zero => exact fun _ x hx => hb x (h0.mem_iff.mp hx)
    | succ i ih =>
      intro hi x hx
      have hi' : i < ss.length := hi
      have st := h1 i ss[i] (List.getElem?_eq_getElem hi')
      have b1 := ih (by omega) _ st.mh
      have b2 := ih (by omega) _ st.ml
      have q1 := st.pos
      have q2 := st.room
      have m : x ∈ ((ss[i].1 - ss[i].2.2) :: (ss[i].2.1 + ss[i].2.2) :: fs i) := st.perm.mem_iff.mp (List.mem_cons_of_mem _ (List.mem_cons_of_mem _ hx))
      simp only [List.mem_cons] at m
      rcases m with rfl | rfl | m
      · omega
      · omega
      · exact ih (by omega) x m
  intro q hq
  obtain ⟨i, hi, rfl⟩ := List.getElem_of_mem hq
  have st := h1 i ss[i] (List.getElem?_eq_getElem hi)
  have b1 := all i (by omega) _ st.mh
  have b2 := all i (by omega) _ st.ml
  have q1 := st.pos
  have q2 := st.room
  exact ⟨b1, b2, by omega, by omega⟩
theorem Leads.run {b g : List Int} {ss : List (Int × Int × Int)} (h : Leads b ss g) : ∃ g', run1 b (ss.map sD) = some g' ∧ g'.Perm g := by
  obtain ⟨fs, h0, h1, h2⟩ := h
  have all : ∀ i, i ≤ ss.length → ∃ g', run1 b ((ss.take i).map sD) = some g' ∧ g'.Perm (fs i) := by
    intro i
    induction i with
    | zero => exact fun _ => ⟨b, rfl, h0.symm⟩
    | succ i ih =>
      intro hi
      have hi' : i < ss.length := hi
      obtain ⟨g', e, p⟩ := ih (by omega)
      have st := h1 i ss[i] (List.getElem?_eq_getElem hi')
      have q1 := st.pos
      have q2 := st.room
      have q3 := p.mem_iff.mpr st.mh
      have q4 : ss[i].2.1 ∈ g'.erase ss[i].1 := (List.mem_erase_of_ne (by omega)).mpr (p.mem_iff.mpr st.ml)
      refine ⟨(g'.erase ss[i].1).erase ss[i].2.1 ++ [ss[i].1 - ss[i].2.2, ss[i].2.1 + ss[i].2.2], ?_, lead_perm p q3 q4 st.perm⟩
      rw [List.take_succ_eq_append_getElem hi', List.map_append, List.map_singleton, run1_snoc e]
      show (if ss[i].2.2 < 1 ∨ ss[i].1 - ss[i].2.2 < ss[i].2.1 + ss[i].2.2 ∨ ss[i].1 ∉ g' then none else if ss[i].2.1 ∉ g'.erase ss[i].1 then none else some ((g'.erase ss[i].1).erase ss[i].2.1 ++ [ss[i].1 - ss[i].2.2, ss[i].2.1 + ss[i].2.2])) = _
      rw [if_neg (by intro z; rcases z with z | z | z; omega; omega; exact z q3), if_neg (fun z => z q4)]
  obtain ⟨g', e, p⟩ := all ss.length (Nat.le_refl _)
  rw [List.take_length] at e
  exact ⟨g', e, h2 ▸ p⟩
theorem tv_leads {a b : List Int} {ss : List (Int × Int × Int)} (h : Leads b ss (fall a)) : tv a b (.lst (ss.map sD)) = true := by
  obtain ⟨g', e, p⟩ := h.run
  simp only [tv, e]
  exact decide_eq_true (isort_congr (p.trans (fall_perm a)))
theorem tv_bad {a b : List Int} {ss : List (Int × Int × Int)} {x : Int} {ts : List D} (hx : 0 < x) (h : Leads b ss (fall a)) : tv a b (.lst ((ss.map sD ++ [sD (0, x, 1)]) ++ ts)) = false := by
  obtain ⟨g', e, p⟩ := h.run
  have : run1 b ((ss.map sD ++ [sD (0, x, 1)]) ++ ts) = none := by
    refine run1_dead (g := b) ?_
    rw [run1_snoc e]
    show (if (1 : Int) < 1 ∨ (0 : Int) - 1 < x + 1 ∨ _ then none else _) = none
    rw [if_pos (.inr (.inl (by omega)))]
  simp only [tv, this]

/-! k21: changed values -/
theorem FW.changed {a : List Int} {ss : List (Int × Int × Int)} {d s : Int} {P : PV.Tm → List PV.Tm → Prop} {X : Er → List PV.Tm → Prop} (la : a.length ≤ 30) (ha : ∀ x ∈ a, 0 ≤ x ∧ x ≤ 1000000) (hl : ss.length ≤ 30) (hb : ∀ q ∈ ss, stB q)
    (h : ∀ k o d s, (k = .O ∨ k = .F) → OkV o ∧ ShV o → P (.v k o) [feedT d s]) : FW den__law_changed [feedT d s, .v .B (.lst (ss.map sD)), .v .B (lI a)] P X := by
  refine FW.def (ρ0 := [some (feedT d s), some (.v .B (.lst (ss.map sD))), some (.v .B (lI a)), none, none, none, none, none, none, none]) rfl ?_
  rw [ch_eq]
  refine SW.seq ?_
  walk_at "wp"
  refine ⟨.B, ss.map sD, .inl (by walk_at "is"), elkBs, ?_⟩
  walk_at "wp"
  rw [List.length_map]
  refine FW.tk (by omega) (by omega) fun r d s lo hi => ?_
  obtain ⟨n, rfl⟩ := Int.eq_ofNat_of_zero_le lo
  walk_at "wp"
  refine AddW.ll (by walk_at "is") (by walk_at "is") elkBi elkO (by rw [List.length_map, sizeLine_eq]; show _ + 1 ≤ _; omega) ?_
  have ex : ∀ (c : Int), List.map D.int a ++ [D.int c] = (a ++ [c]).map D.int := fun c => by rw [List.map_append]; rfl
  obtain ⟨mn, hmn⟩ : ∃ m, (a ++ [9]).min? = some m := by
    cases e : (a ++ [9]).min? with
    | none => have := List.min?_eq_none_iff.mp e; simp at this
    | some m => exact ⟨m, rfl⟩
  obtain ⟨mx, hmx⟩ : ∃ m, (a ++ [0]).max? = some m := by
    cases e : (a ++ [0]).max? with
    | none => have := List.max?_eq_none_iff.mp e; simp at this
    | some m => exact ⟨m, rfl⟩
  have bn : 0 ≤ mn ∧ mn ≤ 1000000 := by
    have := List.min?_mem hmn
    rcases List.mem_append.mp this with z | z
    · exact ha _ z
    · rw [List.mem_singleton.mp z]; omega
  have bx : 0 ≤ mx ∧ mx ≤ 1000000 := by
    have := List.max?_mem hmx
    rcases List.mem_append.mp this with z | z
    · exact ha _ z
    · rw [List.mem_singleton.mp z]; omega
  refine ⟨.O, a ++ [9], mn, by rw [ex]; exact Is.v, hmn, ?_⟩
  walk_at "wp"
  refine AddW.ll (by walk_at "is") (by walk_at "is") elkBi elkO (by rw [List.length_map, sizeLine_eq]; show _ + 1 ≤ _; omega) ?_
  refine ⟨.O, a ++ [0], mx, by rw [ex]; exact Is.v, hmx, ?_⟩
  walk_at "wp"
  refine AddW.ll (by walk_at "is") (by walk_at "is") elkO elkO (by rw [sizeLine_eq]; show 6 + 6 ≤ _; omega) ?_
  walk_at "wp"
  refine AddW.ll (by walk_at "is") (by walk_at "is") elkO elkO (by rw [sizeLine_eq]; show 12 + 5 ≤ _; omega) ?_
  walk_at "wp"
  have hdv : 0 ≤ (mx - mn) / 2 + 1000000 ∧ (mx - mn) / 2 ≤ 1000000 := by omega
  refine chB_ok (od := _ ++ _ ++ _) hl hb (by simp) (by show 17 ≤ _; omega) (fun t ht => ?_) fun k o d s ρ hk ho => ?_
  · have i1 : It (.int 1) := it_int (by unfold Sh; decide)
    have in_ : It (.int mn) := it_int (by unfold Sh; omega)
    have ix : It (.int mx) := it_int (by unfold Sh; omega)
    rcases List.mem_append.mp ht with ht | ht
    · rcases List.mem_append.mp ht with ht | ht
      · simp only [List.mem_cons, List.not_mem_nil, or_false] at ht
        rcases ht with rfl | rfl | rfl | rfl | rfl | rfl
        · exact st_3 ix in_ i1
        · exact st_3 ix in_ (it_int (by unfold Sh; decide))
        · exact st_3 ix in_ (it_int (by unfold Sh; decide))
        · exact st_3 in_ ix i1
        · exact st_3 ix ix i1
        · exact st_3 (it_int (by unfold Sh; omega)) in_ i1
      · simp only [List.mem_cons, List.not_mem_nil, or_false] at ht
        rcases ht with rfl | rfl | rfl | rfl | rfl | rfl
        · exact st_3 ix in_ (it_int (by unfold Sh; omega))
        · exact st_3 ix in_ (it_bl _)
        · exact st_3 ix (it_bl _) i1
        · exact st_l3 ix in_ i1
        · exact st_tup (fun x hx => by
            simp only [List.mem_cons, List.not_mem_nil, or_false] at hx
            rcases hx with rfl | rfl <;> assumption) (by simp)
        · exact st_non
    · simp only [List.mem_cons, List.not_mem_nil, or_false] at ht
      rcases ht with rfl | rfl | rfl | rfl | rfl
      · exact st_3 ix in_ it_one
      · exact st_3 (it_l1 (by unfold Sh; omega)) in_ i1
      · exact st_dK
      · exact st_3 ix in_ (it_int (by unfold Sh; omega))
      · exact st_3 ix in_ (it_int (by unfold Sh; omega))
  · rcases hk with rfl | rfl
    all_goals
      walk_at "wp"
      exact h _ o _ _ (by first | exact .inl rfl | exact .inr rfl) ho

/-! k21: the law -/
def lwE : Sm := (sSeq (sPar [11, 12] (gCons (eRepr3 (eLst (gCons (eF (eVar 9)) (gCons (eF (eVar 10)) (gCons (eF (eVar 3)) gNil))))) (gCons (eCall den_is_transfers [.b, .b, .b] (gCons (eVar 10) (gCons (eVar 3) (gCons (eVar 9) gNil)))) gNil)))
    (sIf (eOr (eNe (eRepr3 (eVar 12)) (eRepr3 (eCall den__law_leads [.b, .b, .f] (gCons (eVar 10) (gCons (eVar 3) (gCons (eF (eVar 9)) gNil)))))) (eNe (eRepr3 (eLst (gCons (eF (eVar 9)) (gCons (eF (eVar 10)) (gCons (eF (eVar 3)) gNil))))) (eVar 11)))
    (sRet (eC (.bl false)))
    sNil))
def lwD : Sm := (sSeq (sSet 10 (eCall den__law_pick [.io, .f] (gCons (eVar 2) (gCons (eF (eLst (gCons (eF (eVar 4)) (gCons (eF (eVar 4)) (gCons (eF (eVar 3)) gNil))))) gNil))))
    lwE)
def lwC : Sm := (sFor (itR1 (eC (.int 10))) (tgN 8)
    (sSeq (sSet 9 (eF (eIf (eGt (eVar 8) (eC (.int 0))) (eCall den__law_changed [.io, .b, .b] (gCons (eVar 2) (gCons (eVar 5) (gCons (eVar 3) gNil)))) (eVar 5))))
    lwD))
def lwA : Sm := (sSeq (sSet 3 (eCall den__law_ages [.io, .b] (gCons (eVar 2) (gCons (eCall den__law_take [.io, .b] (gCons (eVar 2) (gCons (eC (.int 7)) gNil))) gNil))))
    (sSeq (sSet 4 (eCall den__law_calmer [.io, .b] (gCons (eVar 2) (gCons (eVar 3) gNil))))
    (sSeq (sSet 5 (eCall den_transfers [.b, .b] (gCons (eVar 4) (gCons (eVar 3) gNil))))
    (sSeq (sIf (eNot (eCall den__law_own_right [.io, .b] (gCons (eVar 2) (gCons (eVar 3) gNil))))
    (sRet (eC (.bl false)))
    sNil)
    (sSeq (sSet 6 (eCall den_transfers [.b, .b] (gCons (eVar 4) (gCons (eVar 3) gNil))))
    (sSeq (sIf (eNotB (eCall den_is_transfers [.b, .b, .b] (gCons (eVar 4) (gCons (eVar 3) (gCons (eVar 6) gNil)))) (eC (.bl true)))
    (sRet (eC (.bl false)))
    sNil)
    (sSeq (sFor (itSeq (eTup (gCons (eTup (gCons (eC (.int 0)) (gCons (ePow (eC (.int 10)) (eC (.int 9))) (gCons (eC (.int 1)) gNil)))) (gCons eN gNil)))) (tgN 7)
    (sSeq (sExpr (eLm opApp 6 (gCons (eF (eVar 7)) gNil)))
    (sIf (eNotB (eCall den_is_transfers [.b, .b, .b] (gCons (eVar 4) (gCons (eVar 3) (gCons (eVar 6) gNil)))) (eC (.bl false)))
    (sRet (eC (.bl false)))
    sNil)))
    lwC)))))))
theorem law_eq : d_law = sSeq (sFor (itR1 (eMax2 (eC (.int 1)) (eMin2 (eC (.int 4)) (eLen (eVar 0))))) (tgN 1)
    (sSeq (sSet 2 (eCall den__law_feed [.b, .b] (gCons (eVar 0) (gCons (eVar 1) gNil))))
    lwA)) (sRet (eC (.bl true))) := rfl
theorem toPyEs_ints : ∀ xs : List Int, toPyEs (xs.map D.int) = some (xs.map PyData.int)
  | [] => by simp [toPyEs]
  | x :: xs => by simp [toPyEs, toPyE, toPyEs_ints xs]
theorem ten9 : powI 10 9 = some 1000000000 := by decide +kernel
theorem repr_three {o : D} {a b : List Int} (h : ShV o) (la : a.length ≤ 30) (lb : b.length ≤ 30) (ha : ∀ x ∈ a, 0 ≤ x ∧ x ≤ 1000000) (hb : ∀ x ∈ b, 0 ≤ x ∧ x ≤ 1000000) : ∃ x, reprD3 (.lst [o, lI a, lI b]) = some (.str x) := by
  have one : ∀ {c : List Int}, c.length ≤ 30 → (∀ x ∈ c, 0 ≤ x ∧ x ≤ 1000000) → ∃ p, ShD 2 2000 (lI c) p := fun {c} lc hc => by
    have hs : ∀ x ∈ c, Sh x := fun x hx => by have := hc x hx; unfold Sh; omega
    have w := wt_ints c hs
    exact ⟨.list (c.map .int), by simp [toPyE, toPyEs_ints], by simp only [PyData.showable]; exact show_ints c hs, by simp only [PyData.leavesShort]; exact leaf_ints c hs, by simp only [PyData.depth, depth_ints]; omega, by simp only [PyData.weight]; omega⟩
  obtain ⟨p, hp⟩ := h
  obtain ⟨p1, h1⟩ := one la ha
  obtain ⟨p2, h2⟩ := one lb hb
  exact ((ShDs.cons hp (ShDs.cons h1 (ShDs.cons h2 .nil))).lst).repr (by omega) (by omega) ⟨_, .inl rfl⟩
theorem lwD_ok {x0 x1 x5 x6 x7 x8 v10 v11 v12 : Option PV.Tm} {k : Kd} {a b : List Int} {o : D} {d s : Int} {N : Ss → Prop} {R : PV.Tm → Ss → Prop} {B C : Ss → Prop} {X : PX} (hk : k = .O ∨ k = .F) (la : a.length ≤ 30) (lb : b.length ≤ 30) (ha : ∀ x ∈ a, 0 ≤ x ∧ x ≤ 1000000) (hb : ∀ x ∈ b, 0 ≤ x ∧ x ≤ 1000000) (ho : OkV o ∧ ShV o)
    (h : ∀ d s v9 v10 v11 v12, N [x0, x1, some (feedT d s), some (.v .F (lI b)), some (.v .F (lI a)), x5, x6, x7, x8, v9, v10, v11, v12]) :
    SW lwD [x0, x1, some (feedT d s), some (.v k (lI b)), some (.v k (lI a)), x5, x6, x7, x8, some (.v .F o), v10, v11, v12] N R B C X := by
  unfold lwD
  have go : ∀ {c : List Int}, c.length ≤ 30 → (∀ x ∈ c, 0 ≤ x ∧ x ≤ 1000000) → ∀ (d s : Int), SW lwE [x0, x1, some (feedT d s), some (.v .F (lI b)), some (.v .F (lI a)), x5, x6, x7, x8, some (.v .F o), some (.v .F (lI c)), v11, v12] N R B C X := fun {c} lc hc d s => by
    obtain ⟨r, hr⟩ := repr_three ho.2 lc lb hc hb
    unfold lwE
    walk_at "wp"
    refine Rp3W.go Is.v hr ?_
    walk_at "wp"
    refine FW.isT (by omega) ho.1 ?_
    walk_at "wp"
    refine Rp3W.bl Is.v ?_
    walk_at "wp"
    refine FW.leadsV (by omega) ho.1 ?_
    walk_at "wp"
    refine Rp3W.bl Is.v ?_
    refine ⟨_, _, _, _, _, Is.v, Is.v, neD_str _ _, ?_⟩
    refine BoW.d (fun hh => absurd rfl hh) fun _ => ?_
    walk_at "wp"
    refine Rp3W.go Is.v hr ?_
    walk_at "wp"
    refine ⟨_, _, _, _, _, Is.v, Is.v, neD_str _ _, ?_⟩
    refine BoW.d (fun hh => absurd rfl hh) fun _ => ?_
    walk_at "wp"
    exact h _ _ _ _ _ _
  rcases hk with rfl | rfl
  all_goals
    refine SW.seq ?_
    walk_at "wp"
    refine FW.pk (by simp) (by simp) fun x d s hx => ?_
    have hx2 : x = lI a ∨ x = lI b := by
      simp only [List.mem_cons, List.not_mem_nil, or_false] at hx
      rcases hx with rfl | rfl | rfl
      · exact .inl rfl
      · exact .inl rfl
      · exact .inr rfl
    rcases hx2 with rfl | rfl
    · walk_at "wp"
      exact go la ha _ _
    · walk_at "wp"
      exact go lb hb _ _
theorem lwC_ok {x0 x1 x6 x7 x8 v9 v10 v11 v12 : Option PV.Tm} {a b : List Int} {ss : List (Int × Int × Int)} {d s : Int} {N : Ss → Prop} {R : PV.Tm → Ss → Prop} {B C : Ss → Prop} {X : PX} (la : a.length ≤ 30) (lb : b.length ≤ 30) (ha : ∀ x ∈ a, 0 ≤ x ∧ x ≤ 1000000) (hb : ∀ x ∈ b, 0 ≤ x ∧ x ≤ 1000000) (hl : ss.length ≤ 30) (hs : ∀ q ∈ ss, stB q)
    (h : ∀ d s v3 v4 v5 v8 v9 v10 v11 v12, N [x0, x1, some (feedT d s), v3, v4, v5, x6, x7, v8, v9, v10, v11, v12]) :
    SW lwC [x0, x1, some (feedT d s), some (.v .O (lI b)), some (.v .O (lI a)), some (.v .O (.lst (ss.map sD))), x6, x7, x8, v9, v10, v11, v12] N R B C X := by
  have hss : OkV (.lst (ss.map sD)) ∧ ShV (.lst (ss.map sD)) := okv_sts (fun t ht => by
    obtain ⟨q, hq, rfl⟩ := List.mem_map.mp ht
    have z := hs q hq
    exact st_sD (by have := z.1; unfold Sh; omega) (by have := z.2.1; unfold Sh; omega) (by have := z.2.2; unfold Sh; omega)) (by rw [List.length_map]; omega)
  unfold lwC
  refine SW.for ?_
  walk_at "wp"
  rw [show (10 : Int).toNat = 10 from rfl]
  refine ForW.num (fun i ρ => ∃ (k : Kd) (d s : Int) (v8 v9 v10 v11 v12 : Option PV.Tm), ((k = .O ∧ i = 0) ∨ k = .F) ∧ ρ = [x0, x1, some (feedT d s), some (.v k (lI b)), some (.v k (lI a)), some (.v k (.lst (ss.map sD))), x6, x7, v8, v9, v10, v11, v12]) _ 0 ⟨.O, d, s, _, _, _, _, _, .inl ⟨rfl, rfl⟩, rfl⟩ ?_ ?_
  · rintro i t ρ ht ⟨k, d, s, v8, v9, v10, v11, v12, hk, rfl⟩
    obtain ⟨hi, rfl⟩ := rngL_at ht
    rcases hk with ⟨rfl, hi0⟩ | rfl
    · obtain rfl : i = 0 := by omega
      refine TW.n rfl (by walk_at "lt") (by walk_at "set") ?_
      refine SW.seq ?_
      walk_at "wp"
      refine BoW.d (fun hg => absurd hg (by simp)) fun hg => ?_
      walk_at "wp"
      exact lwD_ok (.inl rfl) la lb ha hb hss fun d s v9 v10 v11 v12 => ⟨.F, d, s, _, v9, v10, v11, v12, .inr rfl, rfl⟩
    · refine TW.n rfl (by walk_at "lt") (by walk_at "set") ?_
      refine SW.seq ?_
      walk_at "wp"
      refine BoW.d (fun hg => ?_) fun hg => ?_
      · walk_at "wp"
        refine FW.changed lb hb hl hs fun k o d s hk ho => ?_
        rcases hk with rfl | rfl
        all_goals
          walk_at "wp"
          exact lwD_ok (.inr rfl) la lb ha hb ho fun d s v9 v10 v11 v12 => ⟨.F, d, s, _, v9, v10, v11, v12, .inr rfl, rfl⟩
      · walk_at "wp"
        exact lwD_ok (.inr rfl) la lb ha hb hss fun d s v9 v10 v11 v12 => ⟨.F, d, s, _, v9, v10, v11, v12, .inr rfl, rfl⟩
  · rintro ρ ⟨k, d, s, v8, v9, v10, v11, v12, hk, rfl⟩
    exact h _ _ _ _ _ _ _ _ _ _
theorem lwA_ok {x0 x1 v3 v4 v5 v6 v7 v8 v9 v10 v11 v12 : Option PV.Tm} {d s : Int} {N : Ss → Prop} {R : PV.Tm → Ss → Prop} {B C : Ss → Prop} {X : PX}
    (h : ∀ d s v3 v4 v5 v6 v7 v8 v9 v10 v11 v12, N [x0, x1, some (feedT d s), v3, v4, v5, v6, v7, v8, v9, v10, v11, v12]) : SW lwA [x0, x1, some (feedT d s), v3, v4, v5, v6, v7, v8, v9, v10, v11, v12] N R B C X := by
  unfold lwA
  refine SW.seq ?_
  walk_at "wp"
  refine FW.tk (by omega) (by omega) fun r d s lo hi => ?_
  obtain ⟨n, rfl⟩ := Int.eq_ofNat_of_zero_le lo
  walk_at "wp"
  refine FW.ages (by omega) fun b d s bl bb => ?_
  walk_at "wp"
  refine FW.calmer (by omega) bb fun a d s al as ab hlc => ?_
  have n1 : ¬ (a.length ≠ b.length ∨ a.sum ≠ b.sum) := by intro z; rcases z with z | z; exact z al; exact z as
  have n2 : ∀ l, ¬ lc l a > lc l b := fun l z => by have := hlc l; omega
  walk_at "wp"
  refine FW.transfers (.inl rfl) (.inl rfl) (by omega) (by omega) (fun h1 => absurd h1 n1) (fun l _ _ hgt => absurd hgt (n2 l)) fun ss _ _ _ hL hz => ?_
  walk_at "wp"
  refine FW.ownright (by omega) bb fun d s => ?_
  walk_at "wp"
  refine BoW.ff ?_
  walk_at "wp"
  refine FW.transfers (.inl rfl) (.inl rfl) (by omega) (by omega) (fun h1 => absurd h1 n1) (fun l _ _ hgt => absurd hgt (n2 l)) fun s2 _ _ _ hL2 hz2 => ?_
  walk_at "wp"
  refine FW.isT (by omega) (okV_lst (by rw [List.length_map]; omega) okS_ss) ?_
  rw [tv_leads hL2]
  walk_at "wp"
  refine ⟨_, _, _, _, Is.v, Is.v, ?_⟩
  refine BoW.ff ?_
  walk_at "wp"
  refine ⟨_, ten9, ?_⟩
  walk_at "wp"
  refine ForW.inv (inj := PV.Tm.v .F) (fun pre ρ => ∃ x7, ρ = [x0, x1, some (feedT d s), some (.v .O (lI b)), some (.v .O (lI a)), some (.v .O (.lst (ss.map sD))), some (.v .O (.lst (s2.map sD ++ pre))), x7, v8, v9, v10, v11, v12]) [.tup [.int 0, .int 1000000000, .int 1], .non] [] ⟨_, by rw [List.append_nil]⟩ ?_ ?_
  · rintro as pre x q ρ ha hp ⟨x7, rfl⟩
    have hsp : (pre = [] ∧ x = .tup [.int 0, .int 1000000000, .int 1]) ∨ (pre = [.tup [.int 0, .int 1000000000, .int 1]] ∧ x = .non) := by
      rw [ha, List.nil_append] at hp
      match pre, hp with
      | [], hp => injection hp with h1 _; exact .inl ⟨rfl, h1.symm⟩
      | [y], hp => injection hp with h1 h2; injection h2 with h2 _; subst h1; exact .inr ⟨rfl, h2.symm⟩
      | y :: z :: w, hp => injection hp with h1 h2; injection h2 with h2 h3; cases w <;> cases h3
    have hv : tv a b (.lst (s2.map sD ++ pre ++ [x])) = false := by
      rcases hsp with ⟨rfl, rfl⟩ | ⟨rfl, rfl⟩
      · rw [List.append_nil]
        have := tv_bad (x := 1000000000) (ts := []) (by omega) hL2
        rw [List.append_nil] at this
        exact this
      · exact tv_bad (x := 1000000000) (ts := [.non]) (by omega) hL2
    have hpl : pre.length ≤ 1 := by rcases hsp with ⟨rfl, _⟩ | ⟨rfl, _⟩ <;> simp
    have hx : ∀ t ∈ pre ++ [x], OkS t := by
      have o1 : OkS (.tup [.int 0, .int 1000000000, .int 1]) := okS_3 (okI_int _) (okI_int _) (okI_int _)
      have o2 : OkS .non := okS_nt rfl (by decide)
      rcases hsp with ⟨rfl, rfl⟩ | ⟨rfl, rfl⟩
      · intro t ht; rw [List.nil_append, List.mem_singleton] at ht; subst ht; exact o1
      · intro t ht
        simp only [List.cons_append, List.nil_append, List.mem_cons, List.not_mem_nil, or_false] at ht
        rcases ht with rfl | rfl
        · exact o1
        · exact o2
    have fin : ∀ _ : Unit, (fun ρ2 => ∃ x7, ρ2 = [x0, x1, some (feedT d s), some (.v .O (lI b)), some (.v .O (lI a)), some (.v .O (.lst (ss.map sD))), some (.v .O (.lst (s2.map sD ++ (pre ++ [x])))), x7, v8, v9, v10, v11, v12]) [x0, x1, some (feedT d s), some (.v .O (lI b)), some (.v .O (lI a)), some (.v .O (.lst (ss.map sD))), some (.v .O (.lst (s2.map sD ++ pre ++ [x]))), some (.v .F x), v8, v9, v10, v11, v12] := fun _ => ⟨_, by rw [List.append_assoc]⟩
    generalize (fun ρ2 : Ss => ∃ x7, ρ2 = [x0, x1, some (feedT d s), some (.v .O (lI b)), some (.v .O (lI a)), some (.v .O (.lst (ss.map sD))), some (.v .O (.lst (s2.map sD ++ (pre ++ [x])))), x7, v8, v9, v10, v11, v12]) = NN at fin ⊢
    refine TW.n rfl (by walk_at "lt") (by walk_at "set") ?_
    refine SW.seq (SW.expr ?_)
    refine EW.lm rfl ?_
    walk_at "wp"
    refine FW.isT (by omega) (okV_lst (by simp only [List.length_append, List.length_map, List.length_singleton]; omega) fun t ht => ?_) ?_
    · rw [List.append_assoc] at ht
      rcases List.mem_append.mp ht with ht | ht
      · exact okS_ss t ht
      · exact hx t ht
    rw [hv]
    walk_at "wp"
    refine ⟨_, _, _, _, Is.v, Is.v, ?_⟩
    refine BoW.ff ?_
    walk_at "wp"
    exact fin ()
  · rintro ρ ⟨x7, rfl⟩
    refine lwC_ok (by omega) (by omega) ab bb (by omega) (hL.bd bb) fun d s v3 v4 v5 v8 v9 v10 v11 v12 => h _ _ _ _ _ _ _ _ _ _ _ _

/-! k21: the law holds -/
theorem law_true (ns : List Int) (h : ns.length ≤ 63) : den_law [.v .B (.scr ns)] = .ok (.v .F (.bl true)) [] := by
  have main : FW den_law [.v .B (.scr ns)] (fun r us => r = .v .F (.bl true) ∧ us = []) XF0 := by
    refine FW.def (ρ0 := [some (.v .B (.scr ns)), none, none, none, none, none, none, none, none, none, none, none, none]) rfl ?_
    rw [law_eq]
    refine SW.seq (SW.for ?_)
    walk_at "wp"
    refine ForW.num (fun _ ρ => ∃ v1 v2 v3 v4 v5 v6 v7 v8 v9 v10 v11 v12 : Option PV.Tm, ρ = [some (.v .B (.scr ns)), v1, v2, v3, v4, v5, v6, v7, v8, v9, v10, v11, v12]) _ 0 ⟨_, _, _, _, _, _, _, _, _, _, _, _, rfl⟩ ?_ ?_
    · rintro i t ρ ht ⟨v1, v2, v3, v4, v5, v6, v7, v8, v9, v10, v11, v12, rfl⟩
      obtain ⟨hi, rfl⟩ := rngL_at ht
      rw [Int.zero_add]
      refine TW.n rfl (by walk_at "lt") (by walk_at "set") ?_
      refine SW.seq ?_
      walk_at "wp"
      refine FW.fd (by omega) fun d s => ?_
      walk_at "wp"
      exact lwA_ok fun d s v3 v4 v5 v6 v7 v8 v9 v10 v11 v12 => ⟨_, _, _, _, _, _, _, _, _, _, _, _, rfl⟩
    · rintro ρ ⟨v1, v2, v3, v4, v5, v6, v7, v8, v9, v10, v11, v12, rfl⟩
      walk_at "wp"
      all_goals rfl
  obtain ⟨_, _, e, rfl, rfl⟩ := FW.get main
  exact e
end LW
open PySem PySem.W PyProof.Rows in
set_option maxRecDepth 100000 in
set_option maxHeartbeats 0 in
theorem PySem.Challenge.cw_soldages_k21_values_that_are_transfers_holds : PySem.Challenge.rw_soldages_k21_values_that_are_transfers.Holds := by
  w_on; o_law; k_head; (case hw => w_witness2)
  k_fill
  refine PV.walkG (l := PySem.Challenge.rw_soldages_k21_values_that_are_transfers) (n := 63) (k := 5) (x := "script") (f := LW.den_law) rfl (by decide) rfl ⟨⟨rfl, by decide, by decide⟩, rfl⟩ (fun w h Y => PySem.W.kIn_of Y) (fun ns hl => LW.law_true ns hl) ?F
  case F =>
    intro w mg fa h KX G hmg
    refine' LW.all_mk KX G hmg ?a__law_feed ?l__law_feed ?c__law_feed ?k__law_feed ?a__law_take ?l__law_take ?c__law_take ?k__law_take ?a__law_pick ?l__law_pick ?c__law_pick ?k__law_pick ?a__law_ages ?l__law_ages ?c__law_ages ?k__law_ages ?a__law_calmer ?l__law_calmer ?c__law_calmer ?k__law_calmer ?a_level_cost ?l_level_cost ?c_level_cost ?k_level_cost ?a_level_against ?l_level_against ?c_level_against ?k_level_against ?a_falling ?l_falling ?c_falling ?k_falling ?a_next_places ?l_next_places ?c_next_places ?k_next_places ?a_transfers ?l_transfers ?c_transfers ?k_transfers ?a__law_own_steps ?l__law_own_steps ?c__law_own_steps ?k__law_own_steps ?a_is_integer ?l_is_integer ?c_is_integer ?k_is_integer ?a_after_transfer ?l_after_transfer ?c_after_transfer ?k_after_transfer ?a_is_transfers ?l_is_transfers ?c_is_transfers ?k_is_transfers ?a__law_leads ?l__law_leads ?c__law_leads ?k__law_leads ?a__law_own_right ?l__law_own_right ?c__law_own_right ?k__law_own_right ?a__law_changed ?l__law_changed ?c__law_changed ?k__law_changed ?a_law ?l_law ?c_law ?k_law ?aC_StoreError ?aC_NotComparable ?xk_NotComparable ?xe_NotComparable ?xy_NotComparable ?xs_NotComparable ?xq_NotComparable ?aC_MoreSpread ?xk_MoreSpread ?xe_MoreSpread ?xy_MoreSpread ?xs_MoreSpread ?xL_MoreSpread ?xsa_MoreSpread ?xga_MoreSpread ?xgg_MoreSpread ?xnb_MoreSpread ?xi_MoreSpread ?xt_MoreSpread ?xl_MoreSpread ?xc_MoreSpread ?xh_MoreSpread ?xp_NotComparable_NotComparable ?xp_NotComparable_MoreSpread ?xp_MoreSpread_NotComparable ?xp_MoreSpread_MoreSpread ?z_abs ?z_all ?z_bool ?z_int ?z_isinstance ?z_len ?z_list ?z_max ?z_min ?z_range ?z_repr ?z_set ?z_sorted ?z_str ?z_sum ?z_tuple
    (case a__law_feed => k_is)
    (case l__law_feed => k_is)
    (case c__law_feed => k_is)
    (case k__law_feed => k_is)
    (case a__law_take => k_is)
    (case l__law_take => k_is)
    (case c__law_take => k_is)
    (case k__law_take => k_is)
    (case a__law_pick => k_is)
    (case l__law_pick => k_is)
    (case c__law_pick => k_is)
    (case k__law_pick => k_is)
    (case a__law_ages => k_is)
    (case l__law_ages => k_is)
    (case c__law_ages => k_is)
    (case k__law_ages => k_is)
    (case a__law_calmer => k_is)
    (case l__law_calmer => k_is)
    (case c__law_calmer => k_is)
    (case k__law_calmer => k_is)
    (case a_level_cost => k_is)
    (case l_level_cost => k_is)
    (case c_level_cost => k_is)
    (case k_level_cost => k_is)
    (case a_level_against => k_is)
    (case l_level_against => k_is)
    (case c_level_against => k_is)
    (case k_level_against => k_is)
    (case a_falling => k_is)
    (case l_falling => k_is)
    (case c_falling => k_is)
    (case k_falling => k_is)
    (case a_next_places => k_is)
    (case l_next_places => k_is)
    (case c_next_places => k_is)
    (case k_next_places => k_is)
    (case a_transfers => k_is)
    (case l_transfers => k_is)
    (case c_transfers => k_is)
    (case k_transfers => k_is)
    (case a__law_own_steps => k_is)
    (case l__law_own_steps => k_is)
    (case c__law_own_steps => k_is)
    (case k__law_own_steps => k_is)
    (case a_is_integer => k_is)
    (case l_is_integer => k_is)
    (case c_is_integer => k_is)
    (case k_is_integer => k_is)
    (case a_after_transfer => k_is)
    (case l_after_transfer => k_is)
    (case c_after_transfer => k_is)
    (case k_after_transfer => k_is)
    (case a_is_transfers => k_is)
    (case l_is_transfers => k_is)
    (case c_is_transfers => k_is)
    (case k_is_transfers => k_is)
    (case a__law_leads => k_is)
    (case l__law_leads => k_is)
    (case c__law_leads => k_is)
    (case k__law_leads => k_is)
    (case a__law_own_right => k_is)
    (case l__law_own_right => k_is)
    (case c__law_own_right => k_is)
    (case k__law_own_right => k_is)
    (case a__law_changed => k_is)
    (case l__law_changed => k_is)
    (case c__law_changed => k_is)
    (case k__law_changed => k_is)
    (case a_law => k_is)
    (case l_law => k_is)
    (case c_law => k_is)
    (case k_law => k_is)
    (case aC_StoreError => k_is)
    (case aC_NotComparable => k_is)
    (case xk_NotComparable => k_is)
    (case xe_NotComparable => k_is)
    (case xy_NotComparable => k_is)
    (case xs_NotComparable => k_is)
    (case xq_NotComparable => k_exc)
    (case aC_MoreSpread => k_is)
    (case xk_MoreSpread => k_is)
    (case xe_MoreSpread => k_is)
    (case xy_MoreSpread => k_is)
    (case xs_MoreSpread => k_is)
    (case xL_MoreSpread => k_is)
    (case xsa_MoreSpread => k_is)
    (case xga_MoreSpread => k_is)
    (case xgg_MoreSpread => k_is)
    (case xnb_MoreSpread => k_is)
    (case xi_MoreSpread => k_is)
    (case xt_MoreSpread => k_is)
    (case xl_MoreSpread => k_is)
    (case xc_MoreSpread => k_is)
    (case xh_MoreSpread => k_is)
    (case xp_NotComparable_NotComparable => first | rfl | k_is)
    (case xp_NotComparable_MoreSpread => first | rfl | k_is)
    (case xp_MoreSpread_NotComparable => first | rfl | k_is)
    (case xp_MoreSpread_MoreSpread => first | rfl | k_is)
    (case z_abs => k_is)
    (case z_all => k_is)
    (case z_bool => k_is)
    (case z_int => k_is)
    (case z_isinstance => k_is)
    (case z_len => k_is)
    (case z_list => k_is)
    (case z_max => k_is)
    (case z_min => k_is)
    (case z_range => k_is)
    (case z_repr => k_is)
    (case z_set => k_is)
    (case z_sorted => k_is)
    (case z_str => k_is)
    (case z_sum => k_is)
    (case z_tuple => k_is)

