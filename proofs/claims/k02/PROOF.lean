import PyProof.Rows.All
import Wide.All
import OpenK.AllK
import Wide.FinOn
import HandS.ForMost
import HandS.Exc
import HandS.ExcCtx
import HandS.HotCalls
import HandS.TryOnly
import HandS.CallSlots
import HandS.Deep
import KE.KDictKeyed
import KE.SortData
import HandS.TupAny
import HandS.SortInts
import HandS.Style
import HandS.WordsExc
import HandS.Ends
import HandS.Property
import HandS.MakeKwOnly
import HandS.Walk
import HandS.Conv
import PyProof.ReprRoads
import HandS.RaiseMore
import KE.GoesEnum
import KE.GoesMore
import HandS.SetFor
import HandS.Strs
import HandS.Zip
import HandS.SortKw
import HandS.Remove
import KE.KItemsList
import KE.KDictZip
import KE.GoesZip
import HandS.IsInst
import HandS.SortRule
import HandS.Text
import KE.KCallOwn
import KE.KDictSum
import KE.KDictDisplayH
import HandS.ExcOwn
import HandS.TryMany
import PyProof.EqAt
import PyProof.EqKinds
import PyProof.TupleCall
import Open.SpecLaws
import KE.OsGo
import PyProof.Rows.SortShellAny
import HandS.TupMul
import HandS.More
import KE.KExcIs
import HandS.ExcIs
import HandS.ClsMeth
import PySem.Challenge.RW_soldages_k02_texts_of_logs
set_option Elab.async false
set_option linter.all false
set_option maxRecDepth 100000
set_option maxHeartbeats 4000000
/-! The value layer: data by value, ownership, slots. -/
namespace PV
open PySem PySem.Spec L2

/-- data by value -/
inductive D where
  | non | bl (b : Bool) | int (i : Int) | str (x : Str)
  | tup (xs : List D) | lst (xs : List D)
  | dK (ks : List Key) (xs : List D)
  /-- a dict whose keys are tuples of ints, texts, None and such tuples -/
  | dT (ks xs : List D)
  | ins (c : Nat) (xs : List D)
  /-- the script -/
  | scr (ns : List Int)
  /-- an empty tuple of the module -/
  | kt
  /-- a caught error that is kept: its class, its fields -/
  | err (c : Nat) (xs : List D)
  /-- some text (true), some object (false) -/
  | unk (b : Bool)
  /-- a class of the program -/
  | cls (c : Nat)

/-- where the classes stand; the names of their attributes in order -/
structure Gx where
  K : PySem.W.Frag
  ca : Nat → Addr
  cn : Nat → List Str
  w : World

/-- the script: locked, or one of the module's own -/
def ScrAt (K : PySem.W.Frag) (H : Hp) (a : Addr) (ns : List Int) : Prop := (∃ o, H a = some (.frz o (.lst (ns.map V.int)))) ∨ SqL K (fun _ => none) a (ns.map V.int)
theorem ScrAt.sq {K : PySem.W.Frag} {H : Hp} {a : Addr} {ns : List Int} (h : ScrAt K H a ns) : SqL K H a (ns.map V.int) := by
  rcases h with ⟨o, h⟩ | (h | ⟨o, h⟩) | h
  · exact .inl (.inr ⟨o, h⟩)
  · cases h
  · cases h
  · exact .inr h
/-! data that are keys -/
mutual
def keyN : D → Option NestedKey
  | .non => some NestedKey.none
  | .int i => some (NestedKey.num i)
  | .str x => some (NestedKey.text x)
  | .tup xs => (keysN xs).map NestedKey.tup
  | .kt => some (NestedKey.tup [])
  | _ => none
def keysN : List D → Option (List NestedKey)
  | [] => some []
  | d :: ds => match keyN d, keysN ds with
    | some k, some ks => some (k :: ks)
    | _, _ => none
end
abbrev Ents := List (NestedKey × Addr × Value)
def entN (w : World) (x : NestedKey × Addr × Value) : DictEntry := ⟨x.1.hash w, .ref x.2.1, x.2.2⟩
/-- the dict at a has these entries -/
def dictAt (w : World) (a : Addr) (es : Ents) : Heap → Prop := fun h => ∃ o e ep, h.get? a = some o ∧ o.ExactDict ∧ o.data = .dict e ep ∧ e.toList = es.map (entN w) ∧ (es.map (·.1)).Nodup
/-- the entries are those keys, those values -/
structure DEnt (a : Addr) (ks : List D) (kv vs : List V) (es : Ents) : Prop where
  keys : keysN ks = some (es.map (·.1))
  kv : kv = es.map fun e => V.ref e.2.1
  vals : Vals vs (es.map (·.2.2))
  size : es.length ≤ sizeLine
  deep : ∀ e ∈ es, e.1.depth ≤ 8
  sys : (a == sysModules) = false
/-- an error object of that class, with that dict, at a; it is not raised -/
def errAt (cls : Value) (od : Option Addr) (a : Addr) : Heap → Prop := fun h => ∃ oe vs, h.get? a = some oe ∧ L2N.Zn cls od oe ∧ oe.data = .fields vs
mutual
/-- v is d in the heap H; the addresses that matter satisfy P -/
def Rep (G : Gx) (H : Hp) (P : Addr → Prop) : D → V → Prop
  | .non, v => v = .non
  | .bl b, v => v = .bl b
  | .int i, v => v = .int i
  | .str x, v => v = .str x
  | .tup xs, v => ∃ a vs, v = .ref a ∧ H a = some (.tup vs) ∧ Reps G H P xs vs
  | .lst xs, v => ∃ a vs, v = .ref a ∧ P a ∧ H a = some (.lst vs) ∧ Reps G H P xs vs
  | .dK ks xs, v => ∃ a vs, v = .ref a ∧ P a ∧ H a = some (.dK (ks.zip vs)) ∧ ks.length = vs.length ∧ Reps G H P xs vs
  | .dT ks xs, v => ∃ a kv vs es, v = .ref a ∧ P a ∧ H a = some (.ext (dictAt G.w a es)) ∧ DEnt a ks kv vs es ∧ Reps G H P ks kv ∧ Reps G H P xs vs
  | .ins c xs, v => ∃ a dx vs, v = .ref a ∧ P a ∧ H a = some (.ins (G.ca c) dx ((G.cn c).zip vs)) ∧ vs.length ≤ (G.cn c).length ∧ Reps G H P xs vs
  | .scr ns, v => ∃ a, v = .ref a ∧ ScrAt G.K H a ns
  | .kt, v => ∃ a, v = .ref a ∧ SqT G.K (fun _ => none) a []
  | .err c xs, v => ∃ a od vs, v = .ref a ∧ P a ∧ H a = some (.ext (errAt (.ref (G.ca c)) od a)) ∧ Reps G H P xs vs ∧ (∀ dx, od = some dx → P dx ∧ H dx = some (.xd ((G.cn c).zip vs)) ∧ vs.length = (G.cn c).length) ∧ (od = none → xs = [])
  | .unk b, v => (b = true ∧ ∃ x, v = .str x) ∨ (b = false ∧ ∃ a, v = .ref a)
  | .cls c, v => v = .ref (G.ca c)
def Reps (G : Gx) (H : Hp) (P : Addr → Prop) : List D → List V → Prop
  | [], vs => vs = []
  | d :: ds, vs => ∃ v r, vs = v :: r ∧ Rep G H P d v ∧ Reps G H P ds r
end

/-- tuples never change, nor do locked things -/
def Tk (H H' : Hp) : Prop := (∀ a vs, H a = some (.tup vs) → H' a = some (.tup vs)) ∧ ∀ a o u, H a = some (.frz o (.lst u)) → H' a = some (.frz o (.lst u))
theorem Tk.refl (H : Hp) : Tk H H := ⟨fun _ _ h => h, fun _ _ _ h => h⟩
theorem Tk.trans {H H1 H2 : Hp} (a : Tk H H1) (b : Tk H1 H2) : Tk H H2 := ⟨fun c vs h => b.1 c vs (a.1 c vs h), fun c o u h => b.2 c o u (a.2 c o u h)⟩
mutual
theorem Rep.keep {G : Gx} {H H' : Hp} {P P' : Addr → Prop} (hP : ∀ a, P a → P' a) (hk : ∀ a o, P a → H a = some o → H' a = some o) (ht : Tk H H') : ∀ (d : D) (v : V), Rep G H P d v → Rep G H' P' d v
  | .non, v, h => by simp only [Rep] at h ⊢; exact h
  | .bl b, v, h => by simp only [Rep] at h ⊢; exact h
  | .int i, v, h => by simp only [Rep] at h ⊢; exact h
  | .str x, v, h => by simp only [Rep] at h ⊢; exact h
  | .tup xs, v, h => by
    simp only [Rep] at h ⊢
    obtain ⟨a, vs, e, h1, h2⟩ := h
    exact ⟨a, vs, e, ht.1 _ _ h1, Reps.keep hP hk ht xs vs h2⟩
  | .lst xs, v, h => by
    simp only [Rep] at h ⊢
    obtain ⟨a, vs, e, p, h1, h2⟩ := h
    exact ⟨a, vs, e, hP _ p, hk _ _ p h1, Reps.keep hP hk ht xs vs h2⟩
  | .dK ks xs, v, h => by
    simp only [Rep] at h ⊢
    obtain ⟨a, vs, e, p, h1, hl, h2⟩ := h
    exact ⟨a, vs, e, hP _ p, hk _ _ p h1, hl, Reps.keep hP hk ht xs vs h2⟩
  | .dT ks xs, v, h => by
    simp only [Rep] at h ⊢
    obtain ⟨a, kv, vs, es, e, p, h1, hl, h2, h3⟩ := h
    exact ⟨a, kv, vs, es, e, hP _ p, hk _ _ p h1, hl, Reps.keep hP hk ht ks kv h2, Reps.keep hP hk ht xs vs h3⟩
  | .ins c xs, v, h => by
    simp only [Rep] at h ⊢
    obtain ⟨a, dx, vs, e, p, h1, hl, h2⟩ := h
    exact ⟨a, dx, vs, e, hP _ p, hk _ _ p h1, hl, Reps.keep hP hk ht xs vs h2⟩
  | .scr ns, v, h => by
    simp only [Rep] at h ⊢
    obtain ⟨a, e, h⟩ := h
    exact ⟨a, e, h.elim (fun ⟨o, z⟩ => .inl ⟨o, ht.2 _ _ _ z⟩) .inr⟩
  | .kt, v, h => by simp only [Rep] at h ⊢; exact h
  | .err c xs, v, h => by
    simp only [Rep] at h ⊢
    obtain ⟨a, od, vs, e, p, h1, h2, h3, h4⟩ := h
    exact ⟨a, od, vs, e, hP _ p, hk _ _ p h1, Reps.keep hP hk ht xs vs h2, fun dx hd => ⟨hP _ (h3 dx hd).1, hk _ _ (h3 dx hd).1 (h3 dx hd).2.1, (h3 dx hd).2.2⟩, h4⟩
  | .unk b, v, h => by simp only [Rep] at h ⊢; exact h
  | .cls c, v, h => by simp only [Rep] at h ⊢; exact h
theorem Reps.keep {G : Gx} {H H' : Hp} {P P' : Addr → Prop} (hP : ∀ a, P a → P' a) (hk : ∀ a o, P a → H a = some o → H' a = some o) (ht : Tk H H') : ∀ (ds : List D) (vs : List V), Reps G H P ds vs → Reps G H' P' ds vs
  | [], vs, h => by simp only [Reps] at h ⊢; exact h
  | d :: ds, vs, h => by
    simp only [Reps] at h ⊢
    obtain ⟨v, r, e, h1, h2⟩ := h
    exact ⟨v, r, e, Rep.keep hP hk ht d v h1, Reps.keep hP hk ht ds r h2⟩
end

/-- no list, dict or instance in it -/
def flat : D → Bool
  | .tup xs => flats xs
  | .lst _ => false
  | .dK _ _ => false
  | .dT _ _ => false
  | .ins _ _ => false
  | .err _ _ => false
  | _ => true
where flats : List D → Bool
  | [] => true
  | d :: ds => flat d && flats ds
theorem flats_all : ∀ ds : List D, flat.flats ds = ds.all flat
  | [] => by simp [flat.flats]
  | d :: ds => by simp [flat.flats, flats_all ds]

mutual
theorem Rep.flat {G : Gx} {H : Hp} {P P' : Addr → Prop} : ∀ (d : D) (v : V), PV.flat d = true → Rep G H P d v → Rep G H P' d v
  | .non, v, _, h => by simp only [Rep] at h ⊢; exact h
  | .bl b, v, _, h => by simp only [Rep] at h ⊢; exact h
  | .int i, v, _, h => by simp only [Rep] at h ⊢; exact h
  | .str x, v, _, h => by simp only [Rep] at h ⊢; exact h
  | .tup xs, v, f, h => by
    simp only [Rep] at h ⊢
    obtain ⟨a, vs, e, h1, h2⟩ := h
    exact ⟨a, vs, e, h1, Reps.flat xs vs (by simpa [PV.flat] using f) h2⟩
  | .lst xs, v, f, h => by simp [PV.flat] at f
  | .dK ks xs, v, f, h => by simp [PV.flat] at f
  | .dT ks xs, v, f, h => by simp [PV.flat] at f
  | .ins c xs, v, f, h => by simp [PV.flat] at f
  | .scr ns, v, _, h => by simp only [Rep] at h ⊢; exact h
  | .kt, v, _, h => by simp only [Rep] at h ⊢; exact h
  | .err c xs, v, f, h => by simp [PV.flat] at f
  | .unk b, v, _, h => by simp only [Rep] at h ⊢; exact h
  | .cls c, v, _, h => by simp only [Rep] at h ⊢; exact h
theorem Reps.flat {G : Gx} {H : Hp} {P P' : Addr → Prop} : ∀ (ds : List D) (vs : List V), PV.flat.flats ds = true → Reps G H P ds vs → Reps G H P' ds vs
  | [], vs, _, h => by simp only [Reps] at h ⊢; exact h
  | d :: ds, vs, f, h => by
    simp only [Reps] at h ⊢
    obtain ⟨v, r, e, h1, h2⟩ := h
    have f' : PV.flat d = true ∧ PV.flat.flats ds = true := by simpa [PV.flat.flats] using f
    exact ⟨v, r, e, Rep.flat d v f'.1 h1, Reps.flat ds r f'.2 h2⟩
end
end PV

namespace PV
open PySem PySem.Spec L2

/-- shared for good, lent, owned (its items shared for good) -/
inductive Kd where
  | F | B | O
  deriving DecidableEq

/-- what a name or an expression holds -/
inductive Tm where
  | v (k : Kd) (d : D)
  | tp (ts : List Tm) | ls (ts : List Tm)
  | ob (c : Nat) (ts : List Tm)
  | loc (i : Nat)

def RepO (G : Gx) (H : Hp) (fz : Addr → Prop) : D → V → List Addr → Prop
  | .lst xs, v, os => ∃ a vs, v = .ref a ∧ os = [a] ∧ H a = some (.lst vs) ∧ Reps G H fz xs vs
  | .dK ks xs, v, os => ∃ a vs, v = .ref a ∧ os = [a] ∧ H a = some (.dK (ks.zip vs)) ∧ ks.length = vs.length ∧ Reps G H fz xs vs
  | .dT ks xs, v, os => ∃ a kv vs es, v = .ref a ∧ os = [a] ∧ H a = some (.ext (dictAt G.w a es)) ∧ DEnt a ks kv vs es ∧ Reps G H fz ks kv ∧ Reps G H fz xs vs
  | .ins c xs, v, os => ∃ a dx vs, v = .ref a ∧ os = [a] ∧ H a = some (.ins (G.ca c) dx ((G.cn c).zip vs)) ∧ vs.length ≤ (G.cn c).length ∧ Reps G H fz xs vs
  | d, v, os => os = [] ∧ Rep G H fz d v

mutual
def TmR (G : Gx) (H : Hp) (fz pr : Addr → Prop) : Tm → V → List Addr → Prop
  | .v .F d, v, os => os = [] ∧ Rep G H fz d v
  | .v .B d, v, os => os = [] ∧ Rep G H (fun a => fz a ∨ pr a) d v
  | .v .O d, v, os => RepO G H fz d v os
  | .tp ts, v, os => ∃ a vs, v = .ref a ∧ H a = some (.tup vs) ∧ TmRs G H fz pr ts vs os
  | .ls ts, v, os => ∃ a vs o, v = .ref a ∧ os = a :: o ∧ H a = some (.lst vs) ∧ TmRs G H fz pr ts vs o
  | .ob c ts, v, os => ∃ a dx vs o, v = .ref a ∧ os = a :: o ∧ H a = some (.ins (G.ca c) dx ((G.cn c).zip vs)) ∧ vs.length ≤ (G.cn c).length ∧ TmRs G H fz pr ts vs o
  | .loc _, _, _ => False
def TmRs (G : Gx) (H : Hp) (fz pr : Addr → Prop) : List Tm → List V → List Addr → Prop
  | [], vs, os => vs = [] ∧ os = []
  | t :: ts, vs, os => ∃ v r o1 o2, vs = v :: r ∧ os = o1 ++ o2 ∧ TmR G H fz pr t v o1 ∧ TmRs G H fz pr ts r o2
end

/-- what is owned stands in the heap, and is no tuple and nothing locked -/
def Own (H : Hp) (a : Addr) : Prop := (∃ xs, H a = some (.lst xs)) ∨ (∃ kvs, H a = some (.dK kvs)) ∨ (∃ φ, H a = some (.ext φ)) ∨ ∃ C dx fs, H a = some (.ins C dx fs)
theorem Own.some {H : Hp} {a : Addr} (h : Own H a) : ∃ o, H a = some o := by
  rcases h with ⟨_, h⟩ | ⟨_, h⟩ | ⟨_, h⟩ | ⟨_, _, _, h⟩ <;> exact ⟨_, h⟩
theorem Own.ne {H : Hp} {a : Addr} (h : Own H a) : H a ≠ none := by
  obtain ⟨o, e⟩ := h.some
  rw [e]; simp
theorem RepO.own {G : Gx} {H : Hp} {fz : Addr → Prop} {d : D} {v : V} {os : List Addr} (h : RepO G H fz d v os) : ∀ a ∈ os, Own H a := by
  cases d <;> simp only [RepO] at h
  case lst xs => obtain ⟨a, vs, rfl, rfl, h1, _⟩ := h; intro b hb; rw [List.mem_singleton] at hb; subst hb; exact .inl ⟨_, h1⟩
  case dK ks xs => obtain ⟨a, vs, rfl, rfl, h1, _⟩ := h; intro b hb; rw [List.mem_singleton] at hb; subst hb; exact .inr (.inl ⟨_, h1⟩)
  case dT ks xs => obtain ⟨a, kv, vs, es, rfl, rfl, h1, _⟩ := h; intro b hb; rw [List.mem_singleton] at hb; subst hb; exact .inr (.inr (.inl ⟨_, h1⟩))
  case ins c xs => obtain ⟨a, dx, vs, rfl, rfl, h1, _⟩ := h; intro b hb; rw [List.mem_singleton] at hb; subst hb; exact .inr (.inr (.inr ⟨_, _, _, h1⟩))
  all_goals (obtain ⟨rfl, _⟩ := h; intro b hb; cases hb)
mutual
theorem TmR.own {G : Gx} {H : Hp} {fz pr : Addr → Prop} : ∀ (t : Tm) (v : V) (os : List Addr), TmR G H fz pr t v os → ∀ a ∈ os, Own H a
  | .v .F d, v, os, h => by simp only [TmR] at h; obtain ⟨rfl, _⟩ := h; intro a ha; cases ha
  | .v .B d, v, os, h => by simp only [TmR] at h; obtain ⟨rfl, _⟩ := h; intro a ha; cases ha
  | .v .O d, v, os, h => by simp only [TmR] at h; exact h.own
  | .tp ts, v, os, h => by simp only [TmR] at h; obtain ⟨a, vs, rfl, _, h⟩ := h; exact TmRs.own ts vs os h
  | .ls ts, v, os, h => by
    simp only [TmR] at h
    obtain ⟨a, vs, o, rfl, rfl, h1, h⟩ := h
    intro b hb
    rcases List.mem_cons.mp hb with rfl | hb
    · exact .inl ⟨_, h1⟩
    · exact TmRs.own ts vs o h b hb
  | .ob c ts, v, os, h => by
    simp only [TmR] at h
    obtain ⟨a, dx, vs, o, rfl, rfl, h1, _, h⟩ := h
    intro b hb
    rcases List.mem_cons.mp hb with rfl | hb
    · exact .inr (.inr (.inr ⟨_, _, _, h1⟩))
    · exact TmRs.own ts vs o h b hb
  | .loc i, v, os, h => by simp only [TmR] at h
theorem TmRs.own {G : Gx} {H : Hp} {fz pr : Addr → Prop} : ∀ (ts : List Tm) (vs : List V) (os : List Addr), TmRs G H fz pr ts vs os → ∀ a ∈ os, Own H a
  | [], vs, os, h => by simp only [TmRs] at h; obtain ⟨_, rfl⟩ := h; intro a ha; cases ha
  | t :: ts, vs, os, h => by
    simp only [TmRs] at h
    obtain ⟨v, r, o1, o2, rfl, rfl, h1, h2⟩ := h
    intro a ha
    rcases List.mem_append.mp ha with ha | ha
    · exact TmR.own t v o1 h1 a ha
    · exact TmRs.own ts r o2 h2 a ha
end

theorem RepO.keep {G : Gx} {H H' : Hp} {fz fz' : Addr → Prop} {d : D} {v : V} {os : List Addr} (hf : ∀ a, fz a → fz' a) (hk : ∀ a o, (a ∈ os ∨ fz a) → H a = some o → H' a = some o) (ht : Tk H H') (h : RepO G H fz d v os) : RepO G H' fz' d v os := by
  have hk2 : ∀ a o, fz a → H a = some o → H' a = some o := fun a o p => hk a o (.inr p)
  cases d <;> simp only [RepO] at h ⊢
  case lst xs => obtain ⟨a, vs, rfl, rfl, h1, h2⟩ := h; exact ⟨a, vs, rfl, rfl, hk _ _ (.inl (by simp)) h1, Reps.keep hf hk2 ht _ _ h2⟩
  case dK ks xs => obtain ⟨a, vs, rfl, rfl, h1, hl, h2⟩ := h; exact ⟨a, vs, rfl, rfl, hk _ _ (.inl (by simp)) h1, hl, Reps.keep hf hk2 ht _ _ h2⟩
  case dT ks xs => obtain ⟨a, kv, vs, es, rfl, rfl, h1, hl, h2, h3⟩ := h; exact ⟨a, kv, vs, es, rfl, rfl, hk _ _ (.inl (by simp)) h1, hl, Reps.keep hf hk2 ht _ _ h2, Reps.keep hf hk2 ht _ _ h3⟩
  case ins c xs => obtain ⟨a, dx, vs, rfl, rfl, h1, hl, h2⟩ := h; exact ⟨a, dx, vs, rfl, rfl, hk _ _ (.inl (by simp)) h1, hl, Reps.keep hf hk2 ht _ _ h2⟩
  all_goals exact ⟨h.1, Rep.keep hf hk2 ht _ _ h.2⟩
mutual
theorem TmR.keep {G : Gx} {H H' : Hp} {fz fz' pr pr' : Addr → Prop} (hf : ∀ a, fz a → fz' a) (hp : ∀ a, pr a → fz' a ∨ pr' a) (ht : Tk H H') : ∀ (t : Tm) (v : V) (os : List Addr), (∀ a o, (a ∈ os ∨ fz a ∨ pr a) → H a = some o → H' a = some o) →
    TmR G H fz pr t v os → TmR G H' fz' pr' t v os
  | .v .F d, v, os, hk, h => by simp only [TmR] at h ⊢; exact ⟨h.1, Rep.keep hf (fun a o p => hk a o (.inr (.inl p))) ht _ _ h.2⟩
  | .v .B d, v, os, hk, h => by
    simp only [TmR] at h ⊢
    exact ⟨h.1, Rep.keep (fun a p => p.elim (fun z => .inl (hf a z)) (hp a)) (fun a o p => hk a o (.inr p)) ht _ _ h.2⟩
  | .v .O d, v, os, hk, h => by simp only [TmR] at h ⊢; exact h.keep hf (fun a o p => hk a o (p.elim .inl fun z => .inr (.inl z))) ht
  | .tp ts, v, os, hk, h => by
    simp only [TmR] at h ⊢
    obtain ⟨a, vs, e, h1, h2⟩ := h
    exact ⟨a, vs, e, ht.1 _ _ h1, TmRs.keep hf hp ht ts vs os hk h2⟩
  | .ls ts, v, os, hk, h => by
    simp only [TmR] at h ⊢
    obtain ⟨a, vs, o, rfl, rfl, h1, h2⟩ := h
    exact ⟨a, vs, o, rfl, rfl, hk _ _ (.inl (by simp)) h1, TmRs.keep hf hp ht ts vs o (fun b u p => hk b u (p.elim (fun z => .inl (List.mem_cons_of_mem _ z)) .inr)) h2⟩
  | .ob c ts, v, os, hk, h => by
    simp only [TmR] at h ⊢
    obtain ⟨a, dx, vs, o, rfl, rfl, h1, hl, h2⟩ := h
    exact ⟨a, dx, vs, o, rfl, rfl, hk _ _ (.inl (by simp)) h1, hl, TmRs.keep hf hp ht ts vs o (fun b u p => hk b u (p.elim (fun z => .inl (List.mem_cons_of_mem _ z)) .inr)) h2⟩
  | .loc i, v, os, hk, h => by simp only [TmR] at h
theorem TmRs.keep {G : Gx} {H H' : Hp} {fz fz' pr pr' : Addr → Prop} (hf : ∀ a, fz a → fz' a) (hp : ∀ a, pr a → fz' a ∨ pr' a) (ht : Tk H H') : ∀ (ts : List Tm) (vs : List V) (os : List Addr), (∀ a o, (a ∈ os ∨ fz a ∨ pr a) → H a = some o → H' a = some o) →
    TmRs G H fz pr ts vs os → TmRs G H' fz' pr' ts vs os
  | [], vs, os, hk, h => by simp only [TmRs] at h ⊢; exact h
  | t :: ts, vs, os, hk, h => by
    simp only [TmRs] at h ⊢
    obtain ⟨v, r, o1, o2, rfl, rfl, h1, h2⟩ := h
    exact ⟨v, r, o1, o2, rfl, rfl, TmR.keep hf hp ht t v o1 (fun a o p => hk a o (p.elim (fun z => .inl (List.mem_append_left _ z)) .inr)) h1, TmRs.keep hf hp ht ts r o2 (fun a o p => hk a o (p.elim (fun z => .inl (List.mem_append_right _ z)) .inr)) h2⟩
end

/-- slots by value -/
abbrev Ss := List (Option Tm)
def Sl (G : Gx) (H : Hp) (fz pr : Addr → Prop) : Ss → St → List Addr → Prop
  | [], σ, os => σ = [] ∧ os = []
  | none :: ρ, σ, os => ∃ x r, σ = x :: r ∧ Sl G H fz pr ρ r os
  | some t :: ρ, σ, os => ∃ v r o1 o2, σ = some v :: r ∧ os = o1 ++ o2 ∧ TmR G H fz pr t v o1 ∧ Sl G H fz pr ρ r o2

theorem Sl.own {G : Gx} {H : Hp} {fz pr : Addr → Prop} : ∀ {ρ : Ss} {σ : St} {os : List Addr}, Sl G H fz pr ρ σ os → ∀ a ∈ os, Own H a
  | [], σ, os, h => by simp only [Sl] at h; obtain ⟨_, rfl⟩ := h; intro a ha; cases ha
  | none :: ρ, σ, os, h => by simp only [Sl] at h; obtain ⟨x, r, _, h⟩ := h; exact Sl.own h
  | some t :: ρ, σ, os, h => by
    simp only [Sl] at h
    obtain ⟨v, r, o1, o2, rfl, rfl, h1, h2⟩ := h
    intro a ha
    rcases List.mem_append.mp ha with ha | ha
    · exact TmR.own _ _ _ h1 a ha
    · exact Sl.own h2 a ha
theorem Sl.keep {G : Gx} {H H' : Hp} {fz fz' pr pr' : Addr → Prop} (hf : ∀ a, fz a → fz' a) (hp : ∀ a, pr a → fz' a ∨ pr' a) (ht : Tk H H') : ∀ {ρ : Ss} {σ : St} {os : List Addr}, (∀ a o, (a ∈ os ∨ fz a ∨ pr a) → H a = some o → H' a = some o) →
    Sl G H fz pr ρ σ os → Sl G H' fz' pr' ρ σ os
  | [], σ, os, hk, h => by simp only [Sl] at h ⊢; exact h
  | none :: ρ, σ, os, hk, h => by
    simp only [Sl] at h ⊢
    obtain ⟨x, r, e, h⟩ := h
    exact ⟨x, r, e, Sl.keep hf hp ht hk h⟩
  | some t :: ρ, σ, os, hk, h => by
    simp only [Sl] at h ⊢
    obtain ⟨v, r, o1, o2, rfl, rfl, h1, h2⟩ := h
    exact ⟨v, r, o1, o2, rfl, rfl, TmR.keep hf hp ht _ _ _ (fun a o p => hk a o (p.elim (fun z => .inl (List.mem_append_left _ z)) .inr)) h1, Sl.keep hf hp ht (fun a o p => hk a o (p.elim (fun z => .inl (List.mem_append_right _ z)) .inr)) h2⟩
theorem Sl.len {G : Gx} {H : Hp} {fz pr : Addr → Prop} : ∀ {ρ : Ss} {σ : St} {os : List Addr}, Sl G H fz pr ρ σ os → ρ.length = σ.length
  | [], σ, os, h => by simp only [Sl] at h; rw [h.1]; rfl
  | none :: ρ, σ, os, h => by simp only [Sl] at h; obtain ⟨x, r, rfl, h⟩ := h; simp [Sl.len h]
  | some t :: ρ, σ, os, h => by simp only [Sl] at h; obtain ⟨v, r, o1, o2, rfl, rfl, h1, h2⟩ := h; simp [Sl.len h2]
/-- the i-th slot by itself -/
theorem Sl.get {G : Gx} {H : Hp} {fz pr : Addr → Prop} : ∀ {ρ : Ss} {σ : St} {os : List Addr} {i : Nat} {t : Tm}, Sl G H fz pr ρ σ os → ρ[i]? = some (some t) →
    ∃ v o1 o2 o3, σ[i]? = some (some v) ∧ os = o1 ++ (o2 ++ o3) ∧ TmR G H fz pr t v o2 ∧
      (∀ t' H' fz' o2', TmR G H' fz' pr t' v o2' → (∀ a o, (a ∈ o1 ∨ a ∈ o3 ∨ fz a ∨ pr a) → H a = some o → H' a = some o) → (∀ a, fz a → fz' a) → Tk H H' → Sl G H' fz' pr (ρ.set i (some t')) σ (o1 ++ (o2' ++ o3)))
  | [], σ, os, i, t, h, e => by simp at e
  | none :: ρ, σ, os, 0, t, h, e => by simp at e
  | none :: ρ, σ, os, i + 1, t, h, e => by
    simp only [Sl] at h
    obtain ⟨x, r, rfl, h⟩ := h
    obtain ⟨v, o1, o2, o3, e1, e2, h1, h2⟩ := Sl.get (i := i) (t := t) h (by simpa using e)
    refine ⟨v, o1, o2, o3, by simpa using e1, e2, h1, fun t' H' fz' o2' q hk hf ht => ?_⟩
    simp only [List.set_cons_succ, Sl]
    exact ⟨x, r, rfl, h2 t' H' fz' o2' q hk hf ht⟩
  | some t0 :: ρ, σ, os, 0, t, h, e => by
    simp only [Sl] at h
    obtain ⟨v, r, o1, o2, rfl, rfl, h1, h2⟩ := h
    have e' : t0 = t := by simpa using e
    subst e'
    refine ⟨v, [], o1, o2, rfl, rfl, h1, fun t' H' fz' o2' q hk hf ht => ?_⟩
    simp only [List.set_cons_zero, Sl, List.nil_append]
    exact ⟨v, r, o2', o2, rfl, rfl, q, Sl.keep hf (fun a p => .inr p) ht (fun a o p => hk a o (p.elim (fun z => .inr (.inl z)) fun z => .inr (.inr z))) h2⟩
  | some t0 :: ρ, σ, os, i + 1, t, h, e => by
    simp only [Sl] at h
    obtain ⟨v0, r, p1, p2, rfl, rfl, h0, h⟩ := h
    obtain ⟨v, o1, o2, o3, e1, e2, h1, h2⟩ := Sl.get (i := i) (t := t) h (by simpa using e)
    subst e2
    refine ⟨v, p1 ++ o1, o2, o3, by simpa using e1, by simp, h1, fun t' H' fz' o2' q hk hf ht => ?_⟩
    simp only [List.set_cons_succ, Sl]
    refine ⟨v0, r, p1, o1 ++ (o2' ++ o3), rfl, by simp, ?_, ?_⟩
    · exact TmR.keep hf (fun a p => .inr p) ht _ _ _ (fun a o p => hk a o (p.elim (fun z => .inl (List.mem_append_left _ z)) fun z => .inr (.inr z))) h0
    · exact h2 t' H' fz' o2' q (fun a o p => hk a o (p.elim (fun z => .inl (List.mem_append_right _ z)) .inr)) hf ht
/-- the i-th slot is emptied -/
theorem Sl.drop {G : Gx} {H : Hp} {fz pr : Addr → Prop} : ∀ {ρ : Ss} {σ : St} {os : List Addr} {i : Nat} {t : Tm}, Sl G H fz pr ρ σ os → ρ[i]? = some (some t) →
    ∃ v o1 o2 o3, σ[i]? = some (some v) ∧ os = o1 ++ (o2 ++ o3) ∧ TmR G H fz pr t v o2 ∧ Sl G H fz pr (ρ.set i none) σ (o1 ++ o3)
  | [], σ, os, i, t, h, e => by simp at e
  | none :: ρ, σ, os, 0, t, h, e => by simp at e
  | none :: ρ, σ, os, i + 1, t, h, e => by
    simp only [Sl] at h
    obtain ⟨x, r, rfl, h⟩ := h
    obtain ⟨v, o1, o2, o3, e1, e2, h1, h2⟩ := Sl.drop (i := i) (t := t) h (by simpa using e)
    refine ⟨v, o1, o2, o3, by simpa using e1, e2, h1, ?_⟩
    simp only [List.set_cons_succ, Sl]
    exact ⟨x, r, rfl, h2⟩
  | some t0 :: ρ, σ, os, 0, t, h, e => by
    simp only [Sl] at h
    obtain ⟨v, r, o1, o2, rfl, rfl, h1, h2⟩ := h
    have e' : t0 = t := by simpa using e
    subst e'
    refine ⟨v, [], o1, o2, rfl, rfl, h1, ?_⟩
    simp only [List.set_cons_zero, Sl, List.nil_append]
    exact ⟨_, r, rfl, h2⟩
  | some t0 :: ρ, σ, os, i + 1, t, h, e => by
    simp only [Sl] at h
    obtain ⟨v0, r, p1, p2, rfl, rfl, h0, h⟩ := h
    obtain ⟨v, o1, o2, o3, e1, e2, h1, h2⟩ := Sl.drop (i := i) (t := t) h (by simpa using e)
    subst e2
    refine ⟨v, p1 ++ o1, o2, o3, by simpa using e1, by simp, h1, ?_⟩
    simp only [List.set_cons_succ, Sl]
    exact ⟨v0, r, p1, o1 ++ o3, rfl, by simp, h0, h2⟩
/-- a slot is stored -/
theorem Sl.put {G : Gx} {H : Hp} {fz pr : Addr → Prop} {t : Tm} {v : V} {ot : List Addr} (ht : TmR G H fz pr t v ot) : ∀ {ρ : Ss} {σ : St} {os : List Addr} {i : Nat}, Sl G H fz pr ρ σ os → i < ρ.length →
    ∃ o1 o2 o3, os = o1 ++ (o2 ++ o3) ∧ Sl G H fz pr (ρ.set i (some t)) (σ.set i (some v)) (o1 ++ (ot ++ o3))
  | [], σ, os, i, h, e => absurd e (by simp)
  | none :: ρ, σ, os, 0, h, e => by
    simp only [Sl] at h
    obtain ⟨x, r, rfl, h⟩ := h
    exact ⟨[], [], os, rfl, by simp only [List.set_cons_zero, Sl, List.nil_append]; exact ⟨v, r, ot, os, rfl, rfl, ht, h⟩⟩
  | none :: ρ, σ, os, i + 1, h, e => by
    simp only [Sl] at h
    obtain ⟨x, r, rfl, h⟩ := h
    obtain ⟨o1, o2, o3, e1, h1⟩ := Sl.put ht (i := i) h (by simpa using e)
    exact ⟨o1, o2, o3, e1, by simp only [List.set_cons_succ, Sl]; exact ⟨x, _, rfl, h1⟩⟩
  | some t0 :: ρ, σ, os, 0, h, e => by
    simp only [Sl] at h
    obtain ⟨v0, r, o1, o2, rfl, rfl, h1, h2⟩ := h
    exact ⟨[], o1, o2, rfl, by simp only [List.set_cons_zero, Sl, List.nil_append]; exact ⟨v, r, ot, o2, rfl, rfl, ht, h2⟩⟩
  | some t0 :: ρ, σ, os, i + 1, h, e => by
    simp only [Sl] at h
    obtain ⟨v0, r, p1, p2, rfl, rfl, h0, h⟩ := h
    obtain ⟨o1, o2, o3, e1, h1⟩ := Sl.put ht (i := i) h (by simpa using e)
    subst e1
    refine ⟨p1 ++ o1, o2, o3, by simp, ?_⟩
    simp only [List.set_cons_succ, Sl]
    exact ⟨v0, _, p1, o1 ++ (ot ++ o3), rfl, by simp, h0, h1⟩
end PV

namespace PV
open PySem PySem.Spec L2

/-- a state by value: the heap, what is shared for good, what the slots own, the slots -/
structure Sx where
  H : Hp
  fz : Addr → Prop
  os : List Addr
  ρ : Ss
structure SR (G : Gx) (pr : Addr → Prop) (io : List (Nat × V)) (σ : L2.St) (s : Sx) : Prop where
  sl : Sl G s.H s.fz pr s.ρ σ s.os
  nd : s.os.Nodup
  sep : ∀ a ∈ s.os, ¬ s.fz a ∧ ¬ pr a
  dom : ∀ a, (s.fz a ∨ pr a) → s.H a ≠ none
  iov : ∀ p ∈ io, σ[p.1]? = some (some p.2)
structure Ext (s s' : Sx) : Prop where
  keep : ∀ a o, s.H a = some o → a ∉ s.os → s'.H a = some o
  dom : ∀ a, s.H a ≠ none → s'.H a ≠ none
  tk : Tk s.H s'.H
  fz : ∀ a, s.fz a → s'.fz a
  fzo : ∀ a, s'.fz a → s.fz a ∨ a ∈ s.os ∨ s.H a = none
  oso : ∀ a ∈ s'.os, a ∈ s.os ∨ s.H a = none
theorem Ext.refl (s : Sx) : Ext s s := ⟨fun _ _ h _ => h, fun _ h => h, Tk.refl _, fun _ h => h, fun _ h => .inl h, fun _ h => .inl h⟩
theorem none_of_ne {α : Type} {o : Option α} (h : ¬ o ≠ none) : o = none := by
  cases o with
  | none => rfl
  | some _ => exact absurd (by simp) h
theorem Ext.back {s s' : Sx} (e : Ext s s') {a : Addr} (h : s'.H a = none) : s.H a = none := none_of_ne fun z => e.dom a z h
theorem Ext.trans {s s1 s2 : Sx} (a : Ext s s1) (b : Ext s1 s2) : Ext s s2 where
  keep := fun c o h n => b.keep c o (a.keep c o h n) fun z => (a.oso c z).elim n fun y => by rw [h] at y; cases y
  dom := fun c h => b.dom c (a.dom c h)
  tk := a.tk.trans b.tk
  fz := fun c h => b.fz c (a.fz c h)
  fzo := fun c h => by
    rcases b.fzo c h with h | h | h
    · exact a.fzo c h
    · exact .inr (a.oso c h)
    · exact .inr (.inr (a.back h))
  oso := fun c h => by
    rcases b.oso c h with h | h
    · exact a.oso c h
    · exact .inr (a.back h)

/-- what a value in flight is -/
def TmT (G : Gx) (pr : Addr → Prop) (σ : L2.St) (s : Sx) (t : Tm) (v : V) (ot : List Addr) : Prop :=
  match t with
  | .loc i => ot = [] ∧ σ[i]? = some (some v)
  | t => TmR G s.H s.fz pr t v ot
structure Tp (G : Gx) (pr : Addr → Prop) (σ : L2.St) (s : Sx) (t : Tm) (v : V) (ot : List Addr) : Prop where
  rel : TmT G pr σ s t v ot
  nd : ot.Nodup
  sep : ∀ a ∈ ot, ¬ s.fz a ∧ ¬ pr a ∧ a ∉ s.os
/-- where the owned of a value in flight comes from -/
def Frs (s : Sx) (ot : List Addr) : Prop := ∀ a ∈ ot, a ∈ s.os ∨ s.H a = none
theorem TmT.own {G : Gx} {pr : Addr → Prop} {σ : L2.St} {s : Sx} {t : Tm} {v : V} {ot : List Addr} (h : TmT G pr σ s t v ot) : ∀ a ∈ ot, Own s.H a := by
  cases t with
  | loc i => obtain ⟨rfl, _⟩ := h; intro a ha; cases ha
  | v k d => exact TmR.own _ _ _ h
  | tp ts => exact TmR.own _ _ _ h
  | ls ts => exact TmR.own _ _ _ h
  | ob c ts => exact TmR.own _ _ _ h
section
variable {G : Gx} {pr : Addr → Prop} {io : List (Nat × V)} {σ : L2.St} {s s' : Sx} {t : Tm} {v : V} {ot : List Addr}
theorem SR.own (r : SR G pr io σ s) : ∀ a ∈ s.os, Own s.H a := Sl.own r.sl
/-- a value in flight lives on -/
theorem Tp.on (h : Tp G pr σ s t v ot) (r : SR G pr io σ s) (e : Ext s s') : Tp G pr σ s' t v ot := by
  have ex : ∀ a ∈ ot, ∃ o, s.H a = some o := fun a ha => (h.rel.own a ha).some
  have kp : ∀ a o, (a ∈ ot ∨ s.fz a ∨ pr a) → s.H a = some o → s'.H a = some o := fun a o p q => by
    refine e.keep a o q fun z => ?_
    rcases p with p | p | p
    · exact (h.sep a p).2.2 z
    · exact (r.sep a z).1 p
    · exact (r.sep a z).2 p
  refine ⟨?_, h.nd, fun a ha => ⟨fun z => ?_, (h.sep a ha).2.1, fun z => ?_⟩⟩
  · have hr := h.rel
    cases t with
    | loc i => exact hr
    | v k d => exact TmR.keep e.fz (fun a p => .inr p) e.tk _ _ _ kp hr
    | tp ts => exact TmR.keep e.fz (fun a p => .inr p) e.tk _ _ _ kp hr
    | ls ts => exact TmR.keep e.fz (fun a p => .inr p) e.tk _ _ _ kp hr
    | ob c ts => exact TmR.keep e.fz (fun a p => .inr p) e.tk _ _ _ kp hr
  · obtain ⟨o, ho⟩ := ex a ha
    rcases e.fzo a z with q | q | q
    · exact (h.sep a ha).1 q
    · exact (h.sep a ha).2.2 q
    · rw [ho] at q; cases q
  · obtain ⟨o, ho⟩ := ex a ha
    rcases e.oso a z with q | q
    · exact (h.sep a ha).2.2 q
    · rw [ho] at q; cases q
/-- what is owned in flight and what comes later are apart -/
theorem Tp.apart {ot2 : List Addr} (h : Tp G pr σ s t v ot) (f : Frs s ot2) : ∀ a ∈ ot, a ∉ ot2 := fun a ha hb => by
  obtain ⟨o, ho⟩ := (h.rel.own a ha).some
  rcases f a hb with q | q
  · exact (h.sep a ha).2.2 q
  · rw [ho] at q; cases q
theorem Frs.on {s1 : Sx} {ot : List Addr} (f : Frs s1 ot) (e : Ext s s1) : Frs s ot := fun a ha => (f a ha).elim (e.oso a) fun z => .inr (e.back z)
theorem Frs.nil : Frs s [] := fun a ha => by cases ha
end

/-- an error by value -/
structure Er where
  c : Nat
  ds : List D
inductive Ou where
  | ok (t : Tm) (ρ : Ss)
  | ex (e : Er) (ρ : Ss)
  | no
abbrev Ev := Ss → Ou
def ErR (G : Gx) (H : Hp) (fz : Addr → Prop) (e : Er) (cls : Value) (d : Option Addr) : Prop :=
  cls = .ref (G.ca e.c) ∧ match e.ds with
  | [] => d = none
  | x :: xs => ∃ dx vs, d = some dx ∧ fz dx ∧ H dx = some (.xd ((G.cn e.c).zip vs)) ∧ vs.length = (G.cn e.c).length ∧ Reps G H fz (x :: xs) vs
def tEv (G : Gx) (W : WX) (ios : List Nat) (g : Ev) : TE := fun σ H Q => ∃ pr io s, s.H = H ∧ io.map Prod.fst = ios ∧ SR G pr io σ s ∧
  match g s.ρ with
  | .ok t ρ' => ∀ v s' ot, s'.ρ = ρ' → SR G pr io σ s' → Ext s s' → Tp G pr σ s' t v ot → Frs s ot → Q v s'.H
  | .ex e ρ' => ∀ cls d s', s'.ρ = ρ' → SR G pr io σ s' → Ext s s' → ErR G s'.H s'.fz e cls d → W cls d σ s'.H
  | .no => False
/-- the expression x is g by value -/
abbrev PEv (X : Cx) (G : Gx) (W : WX) (ios : List Nat) (x : Expr) (g : Ev) : Prop := PE X x (tEv G W ios g)

/-- argument lists -/
inductive OuL where
  | ok (ts : List Tm) (ρ : Ss)
  | ex (e : Er) (ρ : Ss)
  | no
def TmTs (G : Gx) (pr : Addr → Prop) (σ : L2.St) (s : Sx) : List Tm → List V → List Addr → Prop
  | [], vs, os => vs = [] ∧ os = []
  | t :: ts, vs, os => ∃ v r o1 o2, vs = v :: r ∧ os = o1 ++ o2 ∧ TmT G pr σ s t v o1 ∧ TmTs G pr σ s ts r o2
structure Tps (G : Gx) (pr : Addr → Prop) (σ : L2.St) (s : Sx) (ts : List Tm) (vs : List V) (ot : List Addr) : Prop where
  rel : TmTs G pr σ s ts vs ot
  nd : ot.Nodup
  sep : ∀ a ∈ ot, ¬ s.fz a ∧ ¬ pr a ∧ a ∉ s.os
def tEvs (G : Gx) (W : WX) (ios : List Nat) (g : Ss → OuL) : TA := fun σ H Q => ∃ pr io s, s.H = H ∧ io.map Prod.fst = ios ∧ SR G pr io σ s ∧
  match g s.ρ with
  | .ok ts ρ' => ∀ vs s' ot, s'.ρ = ρ' → SR G pr io σ s' → Ext s s' → Tps G pr σ s' ts vs ot → Frs s ot → Q vs s'.H
  | .ex e ρ' => ∀ cls d s', s'.ρ = ρ' → SR G pr io σ s' → Ext s s' → ErR G s'.H s'.fz e cls d → W cls d σ s'.H
  | .no => False
abbrev PAv (X : Cx) (G : Gx) (W : WX) (ios : List Nat) (xs : List Expr) (g : Ss → OuL) : Prop := PA X xs (tEvs G W ios g)

theorem pe_imp {X : Cx} {x : Expr} {t t' : TE} (h : PE X x t) (i : ∀ σ H Q, t' σ H Q → t σ H Q) : PE X x t' := ⟨fun pins s σ H Q I q => h.run pins s σ H Q I (i σ H Q q)⟩
theorem pa_imp {X : Cx} {x : List Expr} {t t' : TA} (h : PA X x t) (i : ∀ σ H Q, t' σ H Q → t σ H Q) : PA X x t' := ⟨fun pos pins s σ H Q I q => h.run pos pins s σ H Q I (i σ H Q q)⟩
theorem pt_imp {X : Cx} {x : Expr} {t t' : TT} (h : PT X x t) (i : ∀ σ H Q, t' σ H Q → t σ H Q) : PT X x t' := ⟨fun pins s σ H Q I q => h.run pins s σ H Q I (i σ H Q q)⟩

/-- evaluate, then go on -/
def Ou.bind (o : Ou) (k : Tm → Ss → Ou) : Ou := match o with
  | .ok t ρ => k t ρ
  | .ex e ρ => .ex e ρ
  | .no => .no
def Ou.bindL (o : Ou) (k : Tm → Ss → OuL) : OuL := match o with
  | .ok t ρ => k t ρ
  | .ex e ρ => .ex e ρ
  | .no => .no
def OuL.bind (o : OuL) (k : List Tm → Ss → Ou) : Ou := match o with
  | .ok t ρ => k t ρ
  | .ex e ρ => .ex e ρ
  | .no => .no
def OuL.bindL (o : OuL) (k : List Tm → Ss → OuL) : OuL := match o with
  | .ok t ρ => k t ρ
  | .ex e ρ => .ex e ρ
  | .no => .no

/-- what is asked of an outcome, from the state s on: the end of a reading -/
def OuP (G : Gx) (W : WX) (pr : Addr → Prop) (io : List (Nat × V)) (σ : L2.St) (s : Sx) (o : Ou) (Q : VK) : Prop := match o with
  | .ok t ρ' => ∀ v s' ot, s'.ρ = ρ' → SR G pr io σ s' → Ext s s' → Tp G pr σ s' t v ot → Frs s ot → Q v s'.H
  | .ex e ρ' => ∀ cls d s', s'.ρ = ρ' → SR G pr io σ s' → Ext s s' → ErR G s'.H s'.fz e cls d → W cls d σ s'.H
  | .no => False
def OuLP (G : Gx) (W : WX) (pr : Addr → Prop) (io : List (Nat × V)) (σ : L2.St) (s : Sx) (o : OuL) (Q : List V → Hp → Prop) : Prop := match o with
  | .ok ts ρ' => ∀ vs s' ot, s'.ρ = ρ' → SR G pr io σ s' → Ext s s' → Tps G pr σ s' ts vs ot → Frs s ot → Q vs s'.H
  | .ex e ρ' => ∀ cls d s', s'.ρ = ρ' → SR G pr io σ s' → Ext s s' → ErR G s'.H s'.fz e cls d → W cls d σ s'.H
  | .no => False
section
variable {G : Gx} {W : WX} {pr : Addr → Prop} {io : List (Nat × V)} {σ : L2.St} {s s1 : Sx} {ios : List Nat} {g : Ev} {Q : VK}
theorem tEv_of (hi : io.map Prod.fst = ios) (r : SR G pr io σ s) (h : OuP G W pr io σ s (g s.ρ) Q) : tEv G W ios g σ s.H Q := ⟨pr, io, s, rfl, hi, r, h⟩
theorem tEvs_of {g : Ss → OuL} {Q : List V → Hp → Prop} (hi : io.map Prod.fst = ios) (r : SR G pr io σ s) (h : OuLP G W pr io σ s (g s.ρ) Q) : tEvs G W ios g σ s.H Q := ⟨pr, io, s, rfl, hi, r, h⟩
theorem of_tEv {H : Hp} (h : tEv G W ios g σ H Q) : ∃ pr io s, s.H = H ∧ io.map Prod.fst = ios ∧ SR G pr io σ s ∧ OuP G W pr io σ s (g s.ρ) Q := h
theorem of_tEvs {g : Ss → OuL} {H : Hp} {Q : List V → Hp → Prop} (h : tEvs G W ios g σ H Q) : ∃ pr io s, s.H = H ∧ io.map Prod.fst = ios ∧ SR G pr io σ s ∧ OuLP G W pr io σ s (g s.ρ) Q := h
/-- the outcome from a later state is that from an earlier one -/
theorem OuP.later {o : Ou} (h : OuP G W pr io σ s o Q) (e : Ext s s1) : OuP G W pr io σ s1 o Q := by
  cases o with
  | ok t ρ' => exact fun v s' ot h1 h2 h3 h4 h5 => h v s' ot h1 h2 (e.trans h3) h4 (h5.on e)
  | ex e' ρ' => exact fun cls d s' h1 h2 h3 h4 => h cls d s' h1 h2 (e.trans h3) h4
  | no => exact h
theorem OuLP.later {o : OuL} {Q : List V → Hp → Prop} (h : OuLP G W pr io σ s o Q) (e : Ext s s1) : OuLP G W pr io σ s1 o Q := by
  cases o with
  | ok t ρ' => exact fun v s' ot h1 h2 h3 h4 h5 => h v s' ot h1 h2 (e.trans h3) h4 (h5.on e)
  | ex e' ρ' => exact fun cls d s' h1 h2 h3 h4 => h cls d s' h1 h2 (e.trans h3) h4
  | no => exact h
/-- the first part of a bind -/
theorem OuP.bind {o : Ou} {k : Tm → Ss → Ou} (h : OuP G W pr io σ s (o.bind k) Q)
    {R : VK} (hk : ∀ t v s1 ot, SR G pr io σ s1 → Ext s s1 → Tp G pr σ s1 t v ot → Frs s ot → OuP G W pr io σ s1 (k t s1.ρ) Q → R v s1.H) : OuP G W pr io σ s o R := by
  cases o with
  | ok t ρ' =>
    intro v s1 ot e1 r1 x1 p1 f1
    subst e1
    exact hk t v s1 ot r1 x1 p1 f1 (OuP.later h x1)
  | ex e' ρ' => exact h
  | no => exact h
theorem OuP.bindL {o : Ou} {k : Tm → Ss → OuL} {Q : List V → Hp → Prop} (h : OuLP G W pr io σ s (o.bindL k) Q)
    {R : VK} (hk : ∀ t v s1 ot, SR G pr io σ s1 → Ext s s1 → Tp G pr σ s1 t v ot → Frs s ot → OuLP G W pr io σ s1 (k t s1.ρ) Q → R v s1.H) : OuP G W pr io σ s o R := by
  cases o with
  | ok t ρ' =>
    intro v s1 ot e1 r1 x1 p1 f1
    subst e1
    exact hk t v s1 ot r1 x1 p1 f1 (OuLP.later h x1)
  | ex e' ρ' => exact h
  | no => exact h
theorem OuLP.bind {o : OuL} {k : List Tm → Ss → Ou} (h : OuP G W pr io σ s (o.bind k) Q)
    {R : List V → Hp → Prop} (hk : ∀ ts vs s1 ot, SR G pr io σ s1 → Ext s s1 → Tps G pr σ s1 ts vs ot → Frs s ot → OuP G W pr io σ s1 (k ts s1.ρ) Q → R vs s1.H) : OuLP G W pr io σ s o R := by
  cases o with
  | ok t ρ' =>
    intro v s1 ot e1 r1 x1 p1 f1
    subst e1
    exact hk t v s1 ot r1 x1 p1 f1 (OuP.later h x1)
  | ex e' ρ' => exact h
  | no => exact h
theorem OuLP.bindL {o : OuL} {k : List Tm → Ss → OuL} {Q : List V → Hp → Prop} (h : OuLP G W pr io σ s (o.bindL k) Q)
    {R : List V → Hp → Prop} (hk : ∀ ts vs s1 ot, SR G pr io σ s1 → Ext s s1 → Tps G pr σ s1 ts vs ot → Frs s ot → OuLP G W pr io σ s1 (k ts s1.ρ) Q → R vs s1.H) : OuLP G W pr io σ s o R := by
  cases o with
  | ok t ρ' =>
    intro v s1 ot e1 r1 x1 p1 f1
    subst e1
    exact hk t v s1 ot r1 x1 p1 f1 (OuLP.later h x1)
  | ex e' ρ' => exact h
  | no => exact h
/-- the same, told from the first state -/
theorem OuP.bind0 {o : Ou} {k : Tm → Ss → Ou} (h : OuP G W pr io σ s (o.bind k) Q)
    {R : VK} (hk : ∀ t v s1 ot, SR G pr io σ s1 → Ext s s1 → Tp G pr σ s1 t v ot → Frs s ot → OuP G W pr io σ s (k t s1.ρ) Q → R v s1.H) : OuP G W pr io σ s o R := by
  cases o with
  | ok t ρ' =>
    intro v s1 ot e1 r1 x1 p1 f1
    subst e1
    exact hk t v s1 ot r1 x1 p1 f1 h
  | ex e' ρ' => exact h
  | no => exact h
theorem OuLP.bind0 {o : OuL} {k : List Tm → Ss → Ou} (h : OuP G W pr io σ s (o.bind k) Q)
    {R : List V → Hp → Prop} (hk : ∀ ts vs s1 ot, SR G pr io σ s1 → Ext s s1 → Tps G pr σ s1 ts vs ot → Frs s ot → OuP G W pr io σ s (k ts s1.ρ) Q → R vs s1.H) : OuLP G W pr io σ s o R := by
  cases o with
  | ok t ρ' =>
    intro v s1 ot e1 r1 x1 p1 f1
    subst e1
    exact hk t v s1 ot r1 x1 p1 f1 h
  | ex e' ρ' => exact h
  | no => exact h
/-- general: the whole is told from s, the part from s1 -/
theorem OuP.bindLG {o : Ou} {k : Tm → Ss → OuL} {Q : List V → Hp → Prop} (x : Ext s s1) (h : OuLP G W pr io σ s (o.bindL k) Q)
    {R : VK} (hk : ∀ t v s2 ot, SR G pr io σ s2 → Ext s1 s2 → Tp G pr σ s2 t v ot → Frs s1 ot → OuLP G W pr io σ s (k t s2.ρ) Q → R v s2.H) : OuP G W pr io σ s1 o R := by
  cases o with
  | ok t ρ' =>
    intro v s2 ot e1 r1 x1 p1 f1
    subst e1
    exact hk t v s2 ot r1 x1 p1 f1 h
  | ex e' ρ' => exact OuLP.later h x
  | no => exact h
theorem OuLP.bindLG {o : OuL} {k : List Tm → Ss → OuL} {Q : List V → Hp → Prop} (x : Ext s s1) (h : OuLP G W pr io σ s (o.bindL k) Q)
    {R : List V → Hp → Prop} (hk : ∀ ts vs s2 ot, SR G pr io σ s2 → Ext s1 s2 → Tps G pr σ s2 ts vs ot → Frs s1 ot → OuLP G W pr io σ s (k ts s2.ρ) Q → R vs s2.H) : OuLP G W pr io σ s1 o R := by
  cases o with
  | ok t ρ' =>
    intro v s2 ot e1 r1 x1 p1 f1
    subst e1
    exact hk t v s2 ot r1 x1 p1 f1 h
  | ex e' ρ' => exact OuLP.later h x
  | no => exact h
theorem OuP.bindG {o : Ou} {k : Tm → Ss → Ou} (x : Ext s s1) (h : OuP G W pr io σ s (o.bind k) Q)
    {R : VK} (hk : ∀ t v s2 ot, SR G pr io σ s2 → Ext s1 s2 → Tp G pr σ s2 t v ot → Frs s1 ot → OuP G W pr io σ s (k t s2.ρ) Q → R v s2.H) : OuP G W pr io σ s1 o R := by
  cases o with
  | ok t ρ' =>
    intro v s2 ot e1 r1 x1 p1 f1
    subst e1
    exact hk t v s2 ot r1 x1 p1 f1 h
  | ex e' ρ' => exact OuP.later h x
  | no => exact h
/-- an end without a change: nothing new is owned -/
theorem OuP.here {t : Tm} {v : V} {ot : List Addr} (h : OuP G W pr io σ s (.ok t s.ρ) Q) (r : SR G pr io σ s) (p : Tp G pr σ s t v ot) (f : Frs s ot) : Q v s.H := h v s ot rfl r (Ext.refl s) p f
/-- .. where the value in flight is owned by nobody -/
theorem OuP.done {d : D} {v : V} (h : OuP G W pr io σ s (.ok (.v .F d) s.ρ) Q) (r : SR G pr io σ s) (p : Rep G s.H s.fz d v) : Q v s.H :=
  h.here r (ot := []) ⟨⟨rfl, p⟩, .nil, fun a ha => by cases ha⟩ Frs.nil
end
end PV

namespace PV
open PySem PySem.Spec L2

/-! ### forgetting who owns -/
mutual
def toD : Tm → D
  | .v _ d => d
  | .tp ts => .tup (toDs ts)
  | .ls ts => .lst (toDs ts)
  | .ob c ts => .ins c (toDs ts)
  | .loc _ => .non
def toDs : List Tm → List D
  | [] => []
  | t :: ts => toD t :: toDs ts
end
/-- to be shared for good, if nothing lent is in it -/
def elk (k : Kd) (xs : List D) : Option (List D) := match k with
  | .B => if xs.all flat = true then some xs else none
  | _ => some xs
mutual
def frz : Tm → Option D
  | .v .B d => if flat d = true then some d else none
  | .v _ d => some d
  | .tp ts => (frzs ts).map .tup
  | .ls ts => (frzs ts).map .lst
  | .ob c ts => (frzs ts).map (.ins c)
  | .loc _ => none
def frzs : List Tm → Option (List D)
  | [] => some []
  | t :: ts => match frz t, frzs ts with
    | some d, some ds => some (d :: ds)
    | _, _ => none
end
/-- what stands behind a place -/
def derT (ρ : Ss) : Tm → Option Tm
  | .loc i => match ρ[i]? with
    | some (some t) => some t
    | _ => none
  | t => some t

abbrev TT1 : Addr → Prop := fun _ => True
theorem Rep.any {G : Gx} {H : Hp} {P : Addr → Prop} {d : D} {v : V} (h : Rep G H P d v) : Rep G H TT1 d v := Rep.keep (fun _ _ => trivial) (fun _ _ _ h => h) (Tk.refl H) d v h
theorem Reps.any {G : Gx} {H : Hp} {P : Addr → Prop} {d : List D} {v : List V} (h : Reps G H P d v) : Reps G H TT1 d v := Reps.keep (fun _ _ => trivial) (fun _ _ _ h => h) (Tk.refl H) d v h
theorem Rep.mono {G : Gx} {H : Hp} {P P' : Addr → Prop} {d : D} {v : V} (i : ∀ a, P a → P' a) (h : Rep G H P d v) : Rep G H P' d v := Rep.keep i (fun _ _ _ h => h) (Tk.refl H) d v h
theorem Reps.mono {G : Gx} {H : Hp} {P P' : Addr → Prop} {d : List D} {v : List V} (i : ∀ a, P a → P' a) (h : Reps G H P d v) : Reps G H P' d v := Reps.keep i (fun _ _ _ h => h) (Tk.refl H) d v h
theorem RepO.any {G : Gx} {H : Hp} {fz : Addr → Prop} {d : D} {v : V} {os : List Addr} (h : RepO G H fz d v os) : Rep G H (fun a => fz a ∨ a ∈ os) d v := by
  have i : ∀ a, fz a → fz a ∨ a ∈ os := fun a p => .inl p
  cases d <;> simp only [RepO] at h
  case lst xs => obtain ⟨a, vs, rfl, rfl, h1, h2⟩ := h; simp only [Rep]; exact ⟨a, vs, rfl, .inr (by simp), h1, h2.mono i⟩
  case dK ks xs => obtain ⟨a, vs, rfl, rfl, h1, hl, h2⟩ := h; simp only [Rep]; exact ⟨a, vs, rfl, .inr (by simp), h1, hl, h2.mono i⟩
  case dT ks xs => obtain ⟨a, kv, vs, es, rfl, rfl, h1, hl, h2, h3⟩ := h; simp only [Rep]; exact ⟨a, kv, vs, es, rfl, .inr (by simp), h1, hl, h2.mono i, h3.mono i⟩
  case ins c xs => obtain ⟨a, dx, vs, rfl, rfl, h1, hl, h2⟩ := h; simp only [Rep]; exact ⟨a, dx, vs, rfl, .inr (by simp), h1, hl, h2.mono i⟩
  all_goals exact h.2.mono i
mutual
theorem TmR.toD {G : Gx} {H : Hp} {fz pr : Addr → Prop} : ∀ (t : Tm) (v : V) (os : List Addr), TmR G H fz pr t v os → Rep G H TT1 (PV.toD t) v
  | .v .F d, v, os, h => by simp only [TmR] at h; simp only [PV.toD]; exact h.2.any
  | .v .B d, v, os, h => by simp only [TmR] at h; simp only [PV.toD]; exact h.2.any
  | .v .O d, v, os, h => by simp only [TmR] at h; simp only [PV.toD]; exact h.any.any
  | .tp ts, v, os, h => by simp only [TmR] at h; simp only [PV.toD, Rep]; obtain ⟨a, vs, e, h1, h2⟩ := h; exact ⟨a, vs, e, h1, TmRs.toD ts vs os h2⟩
  | .ls ts, v, os, h => by simp only [TmR] at h; simp only [PV.toD, Rep]; obtain ⟨a, vs, o, e, rfl, h1, h2⟩ := h; exact ⟨a, vs, e, trivial, h1, TmRs.toD ts vs o h2⟩
  | .ob c ts, v, os, h => by simp only [TmR] at h; simp only [PV.toD, Rep]; obtain ⟨a, dx, vs, o, e, rfl, h1, hl, h2⟩ := h; exact ⟨a, dx, vs, e, trivial, h1, hl, TmRs.toD ts vs o h2⟩
  | .loc i, v, os, h => by simp only [TmR] at h
theorem TmRs.toD {G : Gx} {H : Hp} {fz pr : Addr → Prop} : ∀ (ts : List Tm) (vs : List V) (os : List Addr), TmRs G H fz pr ts vs os → Reps G H TT1 (PV.toDs ts) vs
  | [], vs, os, h => by simp only [TmRs] at h; simp only [PV.toDs, Reps]; exact h.1
  | t :: ts, vs, os, h => by
    simp only [TmRs] at h; simp only [PV.toDs, Reps]
    obtain ⟨v, r, o1, o2, rfl, rfl, h1, h2⟩ := h
    exact ⟨v, r, rfl, TmR.toD t v o1 h1, TmRs.toD ts r o2 h2⟩
end
mutual
/-- frozen: the addresses that were owned are shared for good from now on -/
theorem TmR.frz {G : Gx} {H : Hp} {fz pr : Addr → Prop} : ∀ (t : Tm) (v : V) (os : List Addr) (d : D), TmR G H fz pr t v os → PV.frz t = some d → Rep G H (fun a => fz a ∨ a ∈ os) d v
  | .v .F d, v, os, d', h, e => by
    simp only [TmR] at h; simp only [PV.frz, Option.some.injEq] at e; subst e
    exact h.2.mono fun a p => .inl p
  | .v .B d, v, os, d', h, e => by
    simp only [TmR] at h; simp only [PV.frz] at e
    by_cases f : PV.flat d = true
    · rw [if_pos f] at e; cases e; exact Rep.flat _ _ f h.2
    · rw [if_neg f] at e; cases e
  | .v .O d, v, os, d', h, e => by
    simp only [TmR] at h; simp only [PV.frz, Option.some.injEq] at e; subst e
    exact h.any
  | .tp ts, v, os, d', h, e => by
    simp only [TmR] at h; simp only [PV.frz, Option.map_eq_some_iff] at e
    obtain ⟨ds, e1, rfl⟩ := e
    obtain ⟨a, vs, ev, h1, h2⟩ := h
    simp only [Rep]
    exact ⟨a, vs, ev, h1, TmRs.frz ts vs os ds h2 e1⟩
  | .ls ts, v, os, d', h, e => by
    simp only [TmR] at h; simp only [PV.frz, Option.map_eq_some_iff] at e
    obtain ⟨ds, e1, rfl⟩ := e
    obtain ⟨a, vs, o, ev, rfl, h1, h2⟩ := h
    simp only [Rep]
    exact ⟨a, vs, ev, .inr List.mem_cons_self, h1, (TmRs.frz ts vs o ds h2 e1).mono fun b p => p.elim .inl fun z => .inr (List.mem_cons_of_mem _ z)⟩
  | .ob c ts, v, os, d', h, e => by
    simp only [TmR] at h; simp only [PV.frz, Option.map_eq_some_iff] at e
    obtain ⟨ds, e1, rfl⟩ := e
    obtain ⟨a, dx, vs, o, ev, rfl, h1, hl, h2⟩ := h
    simp only [Rep]
    exact ⟨a, dx, vs, ev, .inr List.mem_cons_self, h1, hl, (TmRs.frz ts vs o ds h2 e1).mono fun b p => p.elim .inl fun z => .inr (List.mem_cons_of_mem _ z)⟩
  | .loc i, v, os, d', h, e => by simp only [TmR] at h
theorem TmRs.frz {G : Gx} {H : Hp} {fz pr : Addr → Prop} : ∀ (ts : List Tm) (vs : List V) (os : List Addr) (ds : List D), TmRs G H fz pr ts vs os → PV.frzs ts = some ds → Reps G H (fun a => fz a ∨ a ∈ os) ds vs
  | [], vs, os, ds, h, e => by simp only [TmRs] at h; simp only [PV.frzs, Option.some.injEq] at e; subst e; simp only [Reps]; exact h.1
  | t :: ts, vs, os, ds, h, e => by
    simp only [TmRs] at h; simp only [PV.frzs] at e
    obtain ⟨v, r, o1, o2, rfl, rfl, h1, h2⟩ := h
    cases e1 : PV.frz t with
    | none => rw [e1] at e; cases e
    | some d =>
      cases e2 : PV.frzs ts with
      | none => rw [e1, e2] at e; cases e
      | some ds' =>
        rw [e1, e2] at e
        cases e
        simp only [Reps]
        exact ⟨v, r, rfl, (TmR.frz t v o1 d h1 e1).mono fun a p => p.elim .inl fun z => .inr (List.mem_append_left _ z), (TmRs.frz ts r o2 ds' h2 e2).mono fun a p => p.elim .inl fun z => .inr (List.mem_append_right _ z)⟩
end
theorem Reps.len {G : Gx} {H : Hp} {P : Addr → Prop} : ∀ {ds : List D} {vs : List V}, Reps G H P ds vs → ds.length = vs.length
  | [], vs, h => by simp only [Reps] at h; subst h; rfl
  | d :: ds, vs, h => by simp only [Reps] at h; obtain ⟨v, r, rfl, _, h⟩ := h; simp [Reps.len h]
theorem Reps.app {G : Gx} {H : Hp} {P : Addr → Prop} : ∀ {ds es : List D} {vs ws : List V}, Reps G H P ds vs → Reps G H P es ws → Reps G H P (ds ++ es) (vs ++ ws)
  | [], es, vs, ws, h, h2 => by simp only [Reps] at h; subst h; exact h2
  | d :: ds, es, vs, ws, h, h2 => by
    simp only [Reps] at h
    obtain ⟨v, r, rfl, h1, h⟩ := h
    simp only [List.cons_append, Reps]
    exact ⟨v, r ++ ws, rfl, h1, Reps.app h h2⟩
theorem Reps.get {G : Gx} {H : Hp} {P : Addr → Prop} : ∀ {ds : List D} {vs : List V} {i : Nat} {d : D}, Reps G H P ds vs → ds[i]? = some d → ∃ v, vs[i]? = some v ∧ Rep G H P d v
  | [], vs, i, d, h, e => by simp at e
  | d0 :: ds, vs, 0, d, h, e => by
    simp only [Reps] at h
    obtain ⟨v, r, rfl, h1, h⟩ := h
    have e' : d0 = d := by simpa using e
    subst e'
    exact ⟨v, rfl, h1⟩
  | d0 :: ds, vs, i + 1, d, h, e => by
    simp only [Reps] at h
    obtain ⟨v, r, rfl, h1, h⟩ := h
    obtain ⟨w, e1, e2⟩ := Reps.get h (i := i) (d := d) (by simpa using e)
    exact ⟨w, by simpa using e1, e2⟩
theorem Reps.elk {G : Gx} {H : Hp} {P P' : Addr → Prop} {k : Kd} {xs ys : List D} {vs : List V} (e : PV.elk k xs = some ys) (h : Reps G H P xs vs) (hp : k ≠ .B → ∀ a, P a → P' a) : Reps G H P' ys vs := by
  cases k with
  | F => cases e; exact h.mono (hp (by decide))
  | O => cases e; exact h.mono (hp (by decide))
  | B =>
    simp only [PV.elk] at e
    by_cases f : xs.all PV.flat = true
    · rw [if_pos f] at e; cases e
      exact Reps.flat _ _ (by rw [flats_all]; exact f) h
    · rw [if_neg f] at e; cases e
theorem Reps.drop {G : Gx} {H : Hp} {P : Addr → Prop} : ∀ {ds : List D} {vs : List V} (n : Nat), Reps G H P ds vs → Reps G H P (ds.drop n) (vs.drop n)
  | ds, vs, 0, h => by simpa using h
  | [], vs, n + 1, h => by simp only [Reps] at h; subst h; simp [Reps]
  | d :: ds, vs, n + 1, h => by
    simp only [Reps] at h
    obtain ⟨v, r, rfl, _, h⟩ := h
    simpa using Reps.drop n h
theorem Reps.take {G : Gx} {H : Hp} {P : Addr → Prop} : ∀ {ds : List D} {vs : List V} (n : Nat), Reps G H P ds vs → Reps G H P (ds.take n) (vs.take n)
  | ds, vs, 0, h => by simp [Reps]
  | [], vs, n + 1, h => by simp only [Reps] at h; subst h; simp [Reps]
  | d :: ds, vs, n + 1, h => by
    simp only [Reps] at h
    obtain ⟨v, r, rfl, h1, h⟩ := h
    simp only [List.take_succ_cons, Reps]
    exact ⟨v, _, rfl, h1, Reps.take n h⟩
theorem Reps.set {G : Gx} {H : Hp} {P : Addr → Prop} {d : D} {v : V} (hd : Rep G H P d v) : ∀ {ds : List D} {vs : List V} (n : Nat), Reps G H P ds vs → Reps G H P (ds.set n d) (vs.set n v)
  | [], vs, n, h => by simp only [Reps] at h; subst h; simp [Reps]
  | d0 :: ds, vs, 0, h => by
    simp only [Reps] at h
    obtain ⟨v0, r, rfl, h1, h⟩ := h
    simp only [List.set_cons_zero, Reps]
    exact ⟨v, r, rfl, hd, h⟩
  | d0 :: ds, vs, n + 1, h => by
    simp only [Reps] at h
    obtain ⟨v0, r, rfl, h1, h⟩ := h
    simp only [List.set_cons_succ, Reps]
    exact ⟨v0, _, rfl, h1, Reps.set hd n h⟩
theorem Reps.eraseIdx {G : Gx} {H : Hp} {P : Addr → Prop} : ∀ {ds : List D} {vs : List V} (n : Nat), Reps G H P ds vs → Reps G H P (ds.eraseIdx n) (vs.eraseIdx n)
  | [], vs, n, h => by simp only [Reps] at h; subst h; simp [Reps]
  | d0 :: ds, vs, 0, h => by
    simp only [Reps] at h
    obtain ⟨v0, r, rfl, h1, h⟩ := h
    exact h
  | d0 :: ds, vs, n + 1, h => by
    simp only [Reps] at h
    obtain ⟨v0, r, rfl, h1, h⟩ := h
    simp only [List.eraseIdx_cons_succ, Reps]
    exact ⟨v0, _, rfl, h1, Reps.eraseIdx n h⟩

section
variable {G : Gx} {W : WX} {pr : Addr → Prop} {io : List (Nat × V)} {σ : L2.St} {s s1 : Sx} {ios : List Nat} {Q : VK} {X : Cx}
/-- a new object -/
def Sx.new (s : Sx) (p : Addr) (o : HO) : Sx := { s with H := upd s.H p o }
theorem tk_new {H : Hp} {p : Addr} (hp : H p = none) (o : HO) : Tk H (upd H p o) := ⟨fun a vs h => by rw [upd_ne (ne_of_none h hp)]; exact h, fun a o' u h => by rw [upd_ne (ne_of_none h hp)]; exact h⟩
theorem SR.new (r : SR G pr io σ s) {p : Addr} (hp : s.H p = none) (o : HO) : SR G pr io σ (s.new p o) := by
  refine ⟨Sl.keep (fun _ h => h) (fun _ h => .inr h) (tk_new hp o) (fun a u _ e => by show upd _ _ _ _ = _; rw [upd_ne (ne_of_none e hp)]; exact e) r.sl, r.nd, r.sep, fun a h => ?_, r.iov⟩
  show upd _ _ _ _ ≠ none
  by_cases e : a = p
  · subst e; rw [upd_same]; simp
  · rw [upd_ne e]; exact r.dom a h
theorem Ext.new {p : Addr} (hp : s.H p = none) (o : HO) : Ext s (s.new p o) := by
  refine ⟨fun a u e _ => ?_, fun a h => ?_, tk_new hp o, fun _ h => h, fun _ h => .inl h, fun _ h => .inl h⟩
  · show upd _ _ _ _ = _
    rw [upd_ne (ne_of_none e hp)]; exact e
  · show upd _ _ _ _ ≠ none
    by_cases e : a = p
    · subst e; rw [upd_same]; simp
    · rw [upd_ne e]; exact h
theorem SR.fresh (r : SR G pr io σ s) {p : Addr} (hp : s.H p = none) : ¬ s.fz p ∧ ¬ pr p ∧ p ∉ s.os :=
  ⟨fun z => r.dom p (.inl z) hp, fun z => r.dom p (.inr z) hp, fun z => (r.own p z).ne hp⟩
/-- ends: a new list, a new tuple, a new dict by number or text keys -/
theorem OuP.lst {ds : List D} {vs : List V} (h : OuP G W pr io σ s (.ok (.v .O (.lst ds)) s.ρ) Q) (r : SR G pr io σ s) (hd : Reps G s.H s.fz ds vs) {p : Addr} (hp : s.H p = none) : Q (.ref p) (upd s.H p (.lst vs)) := by
  have f := r.fresh hp
  refine h _ (s.new p (.lst vs)) [p] rfl (r.new hp _) (Ext.new hp _) ⟨?_, by simp, fun a ha => ?_⟩ fun a ha => ?_
  · show TmR _ _ _ _ _ _ _
    simp only [TmR, RepO]
    exact ⟨p, vs, rfl, rfl, upd_same, Reps.keep (fun _ z => z) (fun a o _ e => by show upd _ _ _ _ = _; rw [upd_ne (ne_of_none e hp)]; exact e) (tk_new hp _) _ _ hd⟩
  · rw [List.mem_singleton] at ha; subst ha; exact f
  · rw [List.mem_singleton] at ha; subst ha; exact .inr hp
theorem OuP.tup {ds : List D} {vs : List V} (h : OuP G W pr io σ s (.ok (.v .F (.tup ds)) s.ρ) Q) (r : SR G pr io σ s) (hd : Reps G s.H s.fz ds vs) {p : Addr} (hp : s.H p = none) : Q (.ref p) (upd s.H p (.tup vs)) := by
  refine h _ (s.new p (.tup vs)) [] rfl (r.new hp _) (Ext.new hp _) ⟨?_, .nil, fun a ha => by cases ha⟩ Frs.nil
  show TmR _ _ _ _ _ _ _
  simp only [TmR, Rep]
  exact ⟨trivial, p, vs, rfl, upd_same, Reps.keep (fun _ z => z) (fun a o _ e => by show upd _ _ _ _ = _; rw [upd_ne (ne_of_none e hp)]; exact e) (tk_new hp _) _ _ hd⟩

/-- what stands behind a value in flight -/
theorem SR.at (r : SR G pr io σ s) {i : Nat} {t : Tm} {v : V} (e : s.ρ[i]? = some (some t)) (hv : σ[i]? = some (some v)) : ∃ o, TmR G s.H s.fz pr t v o ∧ ∀ a ∈ o, a ∈ s.os := by
  obtain ⟨v', o1, o2, o3, e1, e2, h, _⟩ := Sl.get r.sl e
  rw [hv] at e1
  cases e1
  exact ⟨o2, h, fun a ha => by rw [e2]; simp [ha]⟩
theorem Tp.der {t u : Tm} {v : V} {ot : List Addr} (p : Tp G pr σ s t v ot) (r : SR G pr io σ s) (e : derT s.ρ t = some u) : ∃ o, TmR G s.H s.fz pr u v o := by
  cases t with
  | loc i =>
    obtain ⟨_, hv⟩ := p.rel
    simp only [derT] at e
    cases q : s.ρ[i]? with
    | none => rw [q] at e; cases e
    | some x =>
      cases x with
      | none => rw [q] at e; cases e
      | some t =>
        rw [q] at e
        cases e
        obtain ⟨o, h, _⟩ := r.at q hv
        exact ⟨o, h⟩
  | v k d => cases e; exact ⟨ot, p.rel⟩
  | tp ts => cases e; exact ⟨ot, p.rel⟩
  | ls ts => cases e; exact ⟨ot, p.rel⟩
  | ob c ts => cases e; exact ⟨ot, p.rel⟩

/-! ### operations on one, on two values -/
def eOp1 (f : Tm → Option Tm) (ga : Ev) : Ev := fun ρ => (ga ρ).bind fun t ρ1 => match (derT ρ1 t).bind f with
  | some r => .ok r ρ1
  | none => .no
def eOp2 (f : Tm → Tm → Option Tm) (ga gb : Ev) : Ev := fun ρ => (ga ρ).bind fun t ρ1 => (gb ρ1).bind fun u ρ2 => match derT ρ2 t, derT ρ2 u with
  | some x, some y => match f x y with
    | some r => .ok r ρ2
    | none => .no
  | _, _ => .no
/-- what is to be shown of an operation: r is its rule's reading -/
def Op1 (G : Gx) (W : WX) (f : Tm → Option Tm) (r : V → Hp → VK → Prop) : Prop := ∀ (pr : Addr → Prop) (io : List (Nat × V)) (σ : L2.St) (s : Sx) (x : V) (tx t : Tm) (ox : List Addr) (Q : VK), SR G pr io σ s → TmR G s.H s.fz pr tx x ox → f tx = some t →
  OuP G W pr io σ s (.ok t s.ρ) Q → r x s.H Q
def Op2 (G : Gx) (W : WX) (f : Tm → Tm → Option Tm) (r : R2) : Prop := ∀ (pr : Addr → Prop) (io : List (Nat × V)) (σ : L2.St) (s : Sx) (x y : V) (tx ty t : Tm) (ox oy : List Addr) (Q : VK), SR G pr io σ s → TmR G s.H s.fz pr tx x ox → TmR G s.H s.fz pr ty y oy → f tx ty = some t →
  OuP G W pr io σ s (.ok t s.ρ) Q → r x y s.H Q
theorem op1_end {f : Tm → Option Tm} {r : V → Hp → VK → Prop} (h : Op1 G W f r) {ga : Ev} {ta : TE} (hta : ta = tEv G W ios ga) {H : Hp} (q : tEv G W ios (eOp1 f ga) σ H Q) : ta σ H (fun x H1 => r x H1 Q) := by
  subst hta
  obtain ⟨pr, io, s, rfl, hi, hr, q⟩ := of_tEv q
  refine tEv_of hi hr (OuP.bind q fun t v s1 ot r1 x1 p1 f1 q1 => ?_)
  cases e : derT s1.ρ t with
  | none => simp only [e, Option.bind_none] at q1; exact q1.elim
  | some u =>
    simp only [e, Option.bind_some] at q1
    cases e2 : f u with
    | none => simp only [e2] at q1; exact q1.elim
    | some w =>
      simp only [e2] at q1
      obtain ⟨o, hu⟩ := p1.der r1 e
      exact h pr io σ s1 v u w o Q r1 hu e2 q1
theorem op2_end {f : Tm → Tm → Option Tm} {r : R2} (h : Op2 G W f r) {ga gb : Ev} {H : Hp} (q : tEv G W ios (eOp2 f ga gb) σ H Q) : tEv G W ios ga σ H (fun x H1 => tEv G W ios gb σ H1 fun y H2 => r x y H2 Q) := by
  obtain ⟨pr, io, s, rfl, hi, hr, q⟩ := of_tEv q
  refine tEv_of hi hr (OuP.bind q fun t v s1 ot r1 x1 p1 f1 q1 => ?_)
  refine tEv_of hi r1 (OuP.bind q1 fun t2 v2 s2 ot2 r2 x2 p2 f2 q2 => ?_)
  have p1' := p1.on r1 x2
  cases e : derT s2.ρ t with
  | none => simp only [e] at q2; exact q2.elim
  | some u =>
    cases e' : derT s2.ρ t2 with
    | none => simp only [e, e'] at q2; exact q2.elim
    | some u2 =>
      simp only [e, e'] at q2
      cases e2 : f u u2 with
      | none => simp only [e2] at q2; exact q2.elim
      | some w =>
        simp only [e2] at q2
        obtain ⟨o, hu⟩ := p1'.der r2 e
        obtain ⟨o', hu'⟩ := p2.der r2 e'
        exact h pr io σ s2 v v2 u u2 w o o' Q r2 hu hu' e2 q2
section
variable {a b : Expr} {pos : Pos} {ga gb : Ev}
theorem v_op {op : Operator} {r : R2} {f : Tm → Tm → Option Tm} (ho : OpR X (binaryOp op) r) (h : Op2 G W f r) (ha : PEv X G W ios a ga) (hb : PEv X G W ios b gb) : PEv X G W ios (.BinOp a op b pos) (eOp2 f ga gb) :=
  pe_imp (pe_op ho ha hb) fun _ _ _ q => op2_end h q
theorem v_cmp {op : CmpOp} {r : R2} {f : Tm → Tm → Option Tm} (ho : OpR X (compareOp op) r) (h : Op2 G W f r) (ha : PEv X G W ios a ga) (hb : PEv X G W ios b gb) (hm : behindInMarks op b = false) : PEv X G W ios (.Compare a [op] [b] pos) (eOp2 f ga gb) :=
  pe_imp (pe_cmpR ho ha hb hm) fun _ _ _ q => op2_end h q
theorem v_un {op : UnaryOp} {r : V → Hp → VK → Prop} {f : Tm → Option Tm} (ho : UnR X (unaryOp op) r) (h : Op1 G W f r) (ha : PEv X G W ios a ga) : PEv X G W ios (.UnaryOp op a pos) (eOp1 f ga) :=
  pe_imp (pe_un ho ha) fun _ _ _ q => op1_end h rfl q
theorem v_ix {r : R2} {f : Tm → Tm → Option Tm} (ho : IxR X r) (h : Op2 G W f r) (ha : PEv X G W ios a ga) (hb : PEv X G W ios b gb) (hs : PlainIx b) : PEv X G W ios (.Subscript a b pos) (eOp2 f ga gb) :=
  pe_imp (pe_ix ho ha hb hs) fun _ _ _ q => op2_end h q
end
end
end PV

namespace PV
open PySem PySem.Spec L2

def rd1 (f : D → Option D) : Tm → Option Tm := fun a => (f (toD a)).map (Tm.v .F)
def rd2 (f : D → D → Option D) : Tm → Tm → Option Tm := fun a b => (f (toD a) (toD b)).map (Tm.v .F)
/-- a rule's reading that reads, and answers something flat -/
def Rd1 (G : Gx) (f : D → Option D) (r : V → Hp → VK → Prop) : Prop := ∀ (H : Hp) (x : V) (dx d : D) (Q : VK), Rep G H TT1 dx x → f dx = some d → (∀ v, (∀ P, Rep G H P d v) → Q v H) → r x H Q
def Rd2 (G : Gx) (f : D → D → Option D) (r : R2) : Prop := ∀ (H : Hp) (x y : V) (dx dy d : D) (Q : VK), Rep G H TT1 dx x → Rep G H TT1 dy y → f dx dy = some d → (∀ v, (∀ P, Rep G H P d v) → Q v H) → r x y H Q
section
variable {G : Gx} {W : WX}
theorem Rd1.op {f : D → Option D} {r : V → Hp → VK → Prop} (h : Rd1 G f r) : Op1 G W (rd1 f) r := by
  intro pr io σ s x tx t ox Q hr hx e q
  simp only [rd1, Option.map_eq_some_iff] at e
  obtain ⟨d, e, rfl⟩ := e
  exact h s.H x _ d Q (TmR.toD _ _ _ hx) e fun v hv => q.done hr (hv _)
theorem Rd2.op {f : D → D → Option D} {r : R2} (h : Rd2 G f r) : Op2 G W (rd2 f) r := by
  intro pr io σ s x y tx ty t ox oy Q hr hx hy e q
  simp only [rd2, Option.map_eq_some_iff] at e
  obtain ⟨d, e, rfl⟩ := e
  exact h s.H x y _ _ d Q (TmR.toD _ _ _ hx) (TmR.toD _ _ _ hy) e fun v hv => q.done hr (hv _)
end

/-! ### ints -/
def dI2 (f : Int → Int → Option Int) : D → D → Option D
  | .int i, .int j => (f i j).map .int
  | _, _ => none
def dC2 (f : Int → Int → Bool) : D → D → Option D
  | .int i, .int j => some (.bl (f i j))
  | _, _ => none
theorem rdI {G : Gx} {f : Int → Int → Option Int} {C : Int → Int → Prop} {g : Int → Int → V} (h : ∀ i j k, f i j = some k → C i j ∧ g i j = .int k) : Rd2 G (dI2 f) (rI C g) := by
  intro H x y dx dy d Q hx hy e q
  cases dx <;> cases dy <;> simp only [dI2, Option.map_eq_some_iff, reduceCtorEq] at e
  rename_i i j
  obtain ⟨k, e, rfl⟩ := e
  simp only [Rep] at hx hy
  obtain ⟨h1, h2⟩ := h i j k e
  exact ⟨i, j, hx, hy, h1, by rw [h2]; exact q _ fun P => by simp only [Rep]⟩
theorem rdI0 {G : Gx} {f : Int → Int → Option Int} {g : Int → Int → V} (h : ∀ i j k, f i j = some k → g i j = .int k) : Rd2 G (dI2 f) (rI0 g) := by
  intro H x y dx dy d Q hx hy e q
  cases dx <;> cases dy <;> simp only [dI2, Option.map_eq_some_iff, reduceCtorEq] at e
  rename_i i j
  obtain ⟨k, e, rfl⟩ := e
  simp only [Rep] at hx hy
  exact ⟨i, j, hx, hy, by rw [h i j k e]; exact q _ fun P => by simp only [Rep]⟩
theorem rdC {G : Gx} {f : Int → Int → Bool} : Rd2 G (dC2 f) (rI0 fun i j => .bl (f i j)) := by
  intro H x y dx dy d Q hx hy e q
  cases dx <;> cases dy <;> simp only [dC2, Option.some.injEq, reduceCtorEq] at e
  subst e
  simp only [Rep] at hx hy
  exact ⟨_, _, hx, hy, q _ fun P => by simp only [Rep]⟩

/-- a + b -/
def addV (k : Kd) (x : D) (k' : Kd) (y : D) : Option Tm := match x, y with
  | .int i, .int j => some (.v .F (.int (i + j)))
  | .str a, .str b => if a.length + b.length ≤ sizeLine then some (.v .F (.str (a ++ b))) else none
  | .lst xs, .lst ys => match elk k xs, elk k' ys with
    | some xs, some ys => if xs.length + ys.length ≤ sizeLine then some (.v .O (.lst (xs ++ ys))) else none
    | _, _ => none
  | .tup xs, .tup ys => match elk k xs, elk k' ys with
    | some xs, some ys => if xs.length + ys.length ≤ sizeLine then some (.v .F (.tup (xs ++ ys))) else none
    | _, _ => none
  | _, _ => none
def opAdd (a b : Tm) : Option Tm := match a, b with
  | .v k x, .v k' y => addV k x k' y
  | _, _ => none
def eAdd : Ev → Ev → Ev := eOp2 opAdd
/-- the items of a list or tuple, as they are read -/
theorem lst_items {G : Gx} {H : Hp} {fz pr : Addr → Prop} {k : Kd} {xs ys : List D} {x : V} {ox : List Addr} (h : TmR G H fz pr (.v k (.lst xs)) x ox) (e : elk k xs = some ys) : ∃ a vs, x = .ref a ∧ H a = some (.lst vs) ∧ Reps G H fz ys vs := by
  cases k with
  | F =>
    simp only [TmR, Rep] at h
    obtain ⟨_, a, vs, e1, _, e2, h⟩ := h
    exact ⟨a, vs, e1, e2, h.elk e fun _ _ p => p⟩
  | B =>
    simp only [TmR, Rep] at h
    obtain ⟨_, a, vs, e1, _, e2, h⟩ := h
    exact ⟨a, vs, e1, e2, h.elk e fun z => absurd rfl z⟩
  | O =>
    simp only [TmR, RepO] at h
    obtain ⟨a, vs, e1, _, e2, h⟩ := h
    exact ⟨a, vs, e1, e2, h.elk e fun _ _ p => p⟩
theorem tup_items {G : Gx} {H : Hp} {fz pr : Addr → Prop} {k : Kd} {xs ys : List D} {x : V} {ox : List Addr} (h : TmR G H fz pr (.v k (.tup xs)) x ox) (e : elk k xs = some ys) : ∃ a vs, x = .ref a ∧ H a = some (.tup vs) ∧ Reps G H fz ys vs := by
  cases k with
  | F =>
    simp only [TmR, Rep] at h
    obtain ⟨_, a, vs, e1, e2, h⟩ := h
    exact ⟨a, vs, e1, e2, h.elk e fun _ _ p => p⟩
  | B =>
    simp only [TmR, Rep] at h
    obtain ⟨_, a, vs, e1, e2, h⟩ := h
    exact ⟨a, vs, e1, e2, h.elk e fun z => absurd rfl z⟩
  | O =>
    simp only [TmR, RepO, Rep] at h
    obtain ⟨_, a, vs, e1, e2, h⟩ := h
    exact ⟨a, vs, e1, e2, h.elk e fun _ _ p => p⟩
def rAddA (K : PySem.W.Frag) : R2 := fun x y H Q => (rI0 (fun i j => .int (i + j)) x y H Q ∨ (∃ i j, x = .str i ∧ y = .str j ∧ i.length + j.length ≤ sizeLine ∧ Q (.str (i ++ j)) H)) ∨ (rCat x y H Q ∨ rCatA K x y H Q)
theorem op_addA {X : Cx} : OpR X (binaryOp .Add) (rAddA X.K) := (op_add.or op_add_str).or (op_cat.or op_catA)
theorem op2_add {G : Gx} {W : WX} {K : PySem.W.Frag} : Op2 G W opAdd (rAddA K) := by
  intro pr io σ s x y tx ty t ox oy Q hr hx hy e q
  cases tx <;> cases ty <;> simp only [opAdd, reduceCtorEq] at e
  rename_i k d k' d'
  have rx := TmR.toD _ _ _ hx
  have ry := TmR.toD _ _ _ hy
  cases d <;> cases d' <;> simp only [addV, reduceCtorEq] at e
  · -- ints
    cases e
    simp only [toD, Rep] at rx ry
    exact .inl (.inl ⟨_, _, rx, ry, q.done hr (by simp only [Rep])⟩)
  · split at e
    · rename_i hl
      cases e
      simp only [toD, Rep] at rx ry
      exact .inl (.inr ⟨_, _, rx, ry, hl, q.done hr (by simp only [Rep])⟩)
    · cases e
  · -- tuples
    rename_i xs ys
    split at e
    · rename_i xs' ys' e1 e2
      split at e
      · rename_i hl
        cases e
        obtain ⟨a, vs, rfl, ha, hvs⟩ := tup_items hx e1
        obtain ⟨b, ws, rfl, hb, hws⟩ := tup_items hy e2
        refine .inr (.inr ⟨a, b, vs, ws, rfl, rfl, .of ha, .of hb, by rw [← hvs.len, ← hws.len]; exact hl, fun z => ?_, fun _ z => ?_, fun _ _ p hp => q.tup hr (hvs.app hws) hp⟩)
        · subst z
          have z : xs' = [] := by have := hvs.len; simpa using this
          subst z
          exact q.done hr (by simp only [Rep, List.nil_append]; exact ⟨b, ws, rfl, hb, hws⟩)
        · subst z
          have z : ys' = [] := by have := hws.len; simpa using this
          subst z
          exact q.done hr (by simp only [Rep, List.append_nil]; exact ⟨a, vs, rfl, ha, hvs⟩)
      · cases e
    · cases e
  · rename_i xs ys
    split at e
    · rename_i xs' ys' e1 e2
      split at e
      · rename_i hl
        cases e
        obtain ⟨a, vs, rfl, ha, hvs⟩ := lst_items hx e1
        obtain ⟨b, ws, rfl, hb, hws⟩ := lst_items hy e2
        exact .inr (.inl ⟨a, b, vs, ws, rfl, rfl, ha, hb, by rw [← hvs.len, ← hws.len]; exact hl, fun p hp => q.lst hr (hvs.app hws) hp⟩)
      · cases e
    · cases e
section
variable {G : Gx} {W : WX} {ios : List Nat} {X : Cx} {a b : Expr} {pos : Pos} {ga gb : Ev}
theorem v_add (ha : PEv X G W ios a ga) (hb : PEv X G W ios b gb) : PEv X G W ios (.BinOp a .Add b pos) (eAdd ga gb) := v_op op_addA op2_add ha hb

def eSub : Ev → Ev → Ev := eOp2 (rd2 (dI2 fun i j => some (i - j)))
theorem v_sub (ha : PEv X G W ios a ga) (hb : PEv X G W ios b gb) : PEv X G W ios (.BinOp a .Sub b pos) (eSub ga gb) := v_op op_sub (Rd2.op (rdI0 fun i j k e => by cases e; rfl)) ha hb
def mulI (i j : Int) : Option Int := if (-(2 ^ 64) < i ∧ i < 2 ^ 64) ∨ (-(2 ^ 64) < j ∧ j < 2 ^ 64) then some (i * j) else none
def divI (i j : Int) : Option Int := if 0 < j ∧ j < 1073741824 then some (i / j) else none
def modI (i j : Int) : Option Int := if 0 < j then some (i % j) else none
def powI (i j : Int) : Option Int := if 0 ≤ j ∧ j ≤ 1000000 ∧ i.natAbs < 2 ^ 64 then some (i ^ j.toNat) else none
def shlI (i j : Int) : Option Int := if 0 ≤ j ∧ j ≤ 1000000 ∧ i.natAbs < 2 ^ 64 then some (i * 2 ^ j.toNat) else none
def eDiv : Ev → Ev → Ev := eOp2 (rd2 (dI2 divI))
def eMod : Ev → Ev → Ev := eOp2 (rd2 (dI2 modI))
def ePow : Ev → Ev → Ev := eOp2 (rd2 (dI2 powI))
def eShl : Ev → Ev → Ev := eOp2 (rd2 (dI2 shlI))
theorem v_div (ha : PEv X G W ios a ga) (hb : PEv X G W ios b gb) : PEv X G W ios (.BinOp a .FloorDiv b pos) (eDiv ga gb) := v_op op_fdiv (Rd2.op (rdI fun i j k e => by
  unfold divI at e
  split at e
  · rename_i h; cases e; exact ⟨h, rfl⟩
  · cases e)) ha hb
theorem v_mod (ha : PEv X G W ios a ga) (hb : PEv X G W ios b gb) : PEv X G W ios (.BinOp a .Mod b pos) (eMod ga gb) := v_op op_mod (Rd2.op (rdI fun i j k e => by
  unfold modI at e
  split at e
  · rename_i h; cases e; exact ⟨h, rfl⟩
  · cases e)) ha hb
theorem v_pow (ha : PEv X G W ios a ga) (hb : PEv X G W ios b gb) : PEv X G W ios (.BinOp a .Pow b pos) (ePow ga gb) := v_op op_pow (Rd2.op (rdI fun i j k e => by
  unfold powI at e
  split at e
  · rename_i h; cases e; exact ⟨h, rfl⟩
  · cases e)) ha hb
def eLt : Ev → Ev → Ev := eOp2 (rd2 (dC2 fun i j => decide (i < j)))
def eLe : Ev → Ev → Ev := eOp2 (rd2 (dC2 fun i j => decide (i ≤ j)))
def eGt : Ev → Ev → Ev := eOp2 (rd2 (dC2 fun i j => decide (j < i)))
def eGe : Ev → Ev → Ev := eOp2 (rd2 (dC2 fun i j => decide (j ≤ i)))
end

/-- a * b: ints, a list times a number, a text times a number -/
def mulV (k : Kd) (x y : D) : Option Tm := match x, y with
  | .int i, .int j => (mulI i j).map fun n => .v .F (.int n)
  | .lst xs, .int n => match elk k xs with
    | some xs => if -(2 ^ 63) ≤ n ∧ n < 2 ^ 63 ∧ xs.length * n.toNat ≤ sizeLine then some (.v .O (.lst (List.replicate n.toNat xs).flatten)) else none
    | none => none
  | _, _ => none
def opMul (a b : Tm) : Option Tm := match a, b with
  | .v k x, .v _ y => mulV k x y
  | _, _ => none
def eMul : Ev → Ev → Ev := eOp2 opMul
theorem Reps.rep {G : Gx} {H : Hp} {P : Addr → Prop} {ds : List D} {vs : List V} (h : Reps G H P ds vs) : ∀ n, Reps G H P (List.replicate n ds).flatten (List.replicate n vs).flatten
  | 0 => by simp [Reps]
  | n + 1 => by
    rw [List.replicate_succ, List.replicate_succ, List.flatten_cons, List.flatten_cons]
    exact h.app (Reps.rep h n)
theorem op2_mul {G : Gx} {W : WX} : Op2 G W opMul (fun x y H Q => rI CMul (fun i j => .int (i * j)) x y H Q ∨ rRep x y H Q) := by
  intro pr io σ s x y tx ty t ox oy Q hr hx hy e q
  cases tx <;> cases ty <;> simp only [opMul, reduceCtorEq] at e
  rename_i k d k' d'
  have rx := TmR.toD _ _ _ hx
  have ry := TmR.toD _ _ _ hy
  cases d <;> cases d' <;> simp only [mulV, reduceCtorEq] at e
  · simp only [Option.map_eq_some_iff] at e
    obtain ⟨n, e, rfl⟩ := e
    unfold mulI at e
    split at e
    · rename_i h
      cases e
      simp only [toD, Rep] at rx ry
      exact .inl ⟨_, _, rx, ry, h, q.done hr (by simp only [Rep])⟩
    · cases e
  · rename_i xs n
    split at e
    · rename_i xs' e1
      split at e
      · rename_i hl
        cases e
        simp only [toD, Rep] at ry
        obtain ⟨a, vs, rfl, ha, hvs⟩ := lst_items hx e1
        exact .inr ⟨a, n, vs, rfl, ry, ha, hl.1, hl.2.1, by rw [← hvs.len]; exact hl.2.2, fun p hp => q.lst hr (hvs.rep _) hp⟩
      · cases e
    · cases e
theorem v_mul {G : Gx} {W : WX} {ios : List Nat} {X : Cx} {a b : Expr} {pos : Pos} {ga gb : Ev} (ha : PEv X G W ios a ga) (hb : PEv X G W ios b gb) : PEv X G W ios (.BinOp a .Mult b pos) (eMul ga gb) := v_op (op_mul.or op_rep) op2_mul ha hb

/-! ### == of data -/
mutual
def toPy : D → Option PyData
  | .non => some .none
  | .bl b => some (.bool b)
  | .int i => some (.int i)
  | .str x => some (.str x)
  | .tup xs => (toPys xs).map .tuple
  | .lst xs => (toPys xs).map .list
  | _ => none
def toPys : List D → Option (List PyData)
  | [] => some []
  | d :: ds => match toPy d, toPys ds with
    | some p, some ps => some (p :: ps)
    | _, _ => none
end
mutual
theorem Rep.dp {G : Gx} {K : PySem.W.Frag} {H : Hp} {P : Addr → Prop} : ∀ (d : D) (v : V) (p : PyData), Rep G H P d v → toPy d = some p → Dp K H v p
  | .non, v, p, h, e => by simp only [Rep] at h; simp only [toPy] at e; cases e; subst h; exact .non
  | .bl b, v, p, h, e => by simp only [Rep] at h; simp only [toPy] at e; cases e; subst h; exact .bl b
  | .int i, v, p, h, e => by simp only [Rep] at h; simp only [toPy] at e; cases e; subst h; exact .int i
  | .str x, v, p, h, e => by simp only [Rep] at h; simp only [toPy] at e; cases e; subst h; exact .str x
  | .tup xs, v, p, h, e => by
    simp only [Rep] at h; simp only [toPy, Option.map_eq_some_iff] at e
    obtain ⟨ps, e, rfl⟩ := e
    obtain ⟨a, vs, rfl, h1, h2⟩ := h
    exact .tup (.of h1) (Reps.dp xs vs ps h2 e)
  | .lst xs, v, p, h, e => by
    simp only [Rep] at h; simp only [toPy, Option.map_eq_some_iff] at e
    obtain ⟨ps, e, rfl⟩ := e
    obtain ⟨a, vs, rfl, _, h1, h2⟩ := h
    exact .lst (.of h1) (Reps.dp xs vs ps h2 e)
  | .dK ks xs, v, p, h, e => by simp [toPy] at e
  | .dT ks xs, v, p, h, e => by simp [toPy] at e
  | .ins c xs, v, p, h, e => by simp [toPy] at e
  | .scr ns, v, p, h, e => by simp [toPy] at e
  | .kt, v, p, h, e => by simp [toPy] at e
theorem Reps.dp {G : Gx} {K : PySem.W.Frag} {H : Hp} {P : Addr → Prop} : ∀ (ds : List D) (vs : List V) (ps : List PyData), Reps G H P ds vs → toPys ds = some ps → DpAll K H vs ps
  | [], vs, ps, h, e => by simp only [Reps] at h; simp only [toPys] at e; cases e; subst h; exact .nil
  | d :: ds, vs, ps, h, e => by
    simp only [Reps] at h; simp only [toPys] at e
    obtain ⟨v, r, rfl, h1, h2⟩ := h
    cases e1 : toPy d with
    | none => rw [e1] at e; cases e
    | some p =>
      cases e2 : toPys ds with
      | none => rw [e1, e2] at e; cases e
      | some ps' =>
        rw [e1, e2] at e
        cases e
        exact .cons (Rep.dp d v p h1 e1) (Reps.dp ds r ps' h2 e2)
end
def strD : D → Option Str
  | .str x => some x
  | _ => none
def eqP (neg : Bool) (x y : D) : Option D := match toPy x, toPy y with
  | some p, some q => if SeqAt.shaped p = true ∧ SeqAt.shaped q = true then some (.bl (if neg then !PyData.eqv p q else PyData.eqv p q)) else none
  | _, _ => none
def eqD (neg : Bool) (x y : D) : Option D := match strD x, strD y with
  | some a, some b => some (.bl (if neg then !decide (a = b) else decide (a = b)))
  | _, _ => eqP neg x y
theorem strD_eq {d : D} {a : Str} (h : strD d = some a) : d = .str a := by
  cases d <;> simp only [strD, Option.some.injEq, reduceCtorEq] at h
  rw [h]
def rEqA (K : PySem.W.Frag) : R2 := fun x y H Q => rEq x y H Q ∨ rEqD K x y H Q
def rNeA (K : PySem.W.Frag) : R2 := fun x y H Q => rNe x y H Q ∨ rNeD K x y H Q
theorem decV {a b : Str} : decide (V.str a = V.str b) = decide (a = b) := by simp
theorem rdEq {G : Gx} {K : PySem.W.Frag} : Rd2 G (eqD false) (rEqA K) := by
  intro H x y dx dy d Q hx hy e q
  unfold eqD at e
  split at e
  · rename_i a b e1 e2
    rw [strD_eq e1] at hx
    rw [strD_eq e2] at hy
    simp only [Rep] at hx hy
    subst hx; subst hy
    cases e
    exact .inl ⟨rfl, q _ fun P => by simp only [Rep]; rw [decV]; rfl⟩
  · unfold eqP at e
    split at e
    · rename_i p p' e1 e2
      split at e
      · rename_i hs
        cases e
        exact .inr ⟨p, p', Rep.dp _ _ _ hx e1, Rep.dp _ _ _ hy e2, hs.1, hs.2, q _ fun P => by simp only [Rep]; rfl⟩
      · cases e
    · cases e
theorem rdNe {G : Gx} {K : PySem.W.Frag} : Rd2 G (eqD true) (rNeA K) := by
  intro H x y dx dy d Q hx hy e q
  unfold eqD at e
  split at e
  · rename_i a b e1 e2
    rw [strD_eq e1] at hx
    rw [strD_eq e2] at hy
    simp only [Rep] at hx hy
    subst hx; subst hy
    cases e
    exact .inl ⟨rfl, q _ fun P => by simp only [Rep]; rw [decV]; rfl⟩
  · unfold eqP at e
    split at e
    · rename_i p p' e1 e2
      split at e
      · rename_i hs
        cases e
        exact .inr ⟨p, p', Rep.dp _ _ _ hx e1, Rep.dp _ _ _ hy e2, hs.1, hs.2, q _ fun P => by simp only [Rep]; rfl⟩
      · cases e
    · cases e
def eEq : Ev → Ev → Ev := eOp2 (rd2 (eqD false))
def eNe : Ev → Ev → Ev := eOp2 (rd2 (eqD true))
section
variable {G : Gx} {W : WX} {ios : List Nat} {X : Cx} {a b : Expr} {pos : Pos} {ga gb : Ev} {k : Nat}
/-! ### names, constants -/
def eVar (i : Nat) : Ev := fun ρ => match ρ[i]? with
  | some (some (.v .O d)) => .ok (.loc i) ρ
  | some (some (.v k d)) => .ok (.v k d) ρ
  | some (some t) => .ok (.loc i) ρ
  | _ => .no
theorem v_var (i : Nat) {x : Str} {pos : Pos} (hN : X.N[i]? = some x := by rfl) (hv : Vis X.env.scope x := by first | exact Or.inl rfl | exact Or.inr (Or.inl rfl) | exact Or.inr (Or.inr rfl)) (hd : (x == ("__debug__" : Str)) = false := by decide)
    (hcd : (x == ("__classdict__" : Str)) = false := by decide) : PEv X G W ios (.Name x pos) (eVar i) := by
  refine pe_imp (pe_var hN hv hd hcd) fun σ H Q q => ?_
  obtain ⟨pr, io, s, rfl, hi, r, q⟩ := of_tEv q
  have loc : ∀ t, s.ρ[i]? = some (some t) → OuP G W pr io σ s (.ok (.loc i) s.ρ) Q → tVar i σ s.H Q := fun t e q => by
    obtain ⟨v, _, _, _, e1, _, _, _⟩ := Sl.get r.sl e
    exact ⟨v, e1, q.here r (ot := []) ⟨⟨rfl, e1⟩, .nil, fun a ha => by cases ha⟩ Frs.nil⟩
  have val : ∀ k d, k ≠ .O → s.ρ[i]? = some (some (.v k d)) → OuP G W pr io σ s (.ok (.v k d) s.ρ) Q → tVar i σ s.H Q := fun k d hk e q => by
    obtain ⟨v, o1, o2, o3, e1, e2, h, _⟩ := Sl.get r.sl e
    have ho : o2 = [] := by
      cases k <;> simp only [TmR] at h
      · exact h.1
      · exact h.1
      · exact absurd rfl hk
    subst ho
    exact ⟨v, e1, q.here r (ot := []) ⟨h, .nil, fun a ha => by cases ha⟩ Frs.nil⟩
  unfold eVar at q
  cases e : s.ρ[i]? with
  | none => rw [e] at q; exact q.elim
  | some o =>
    cases o with
    | none => rw [e] at q; exact q.elim
    | some t =>
      rw [e] at q
      cases t with
      | v k d =>
        cases k with
        | O => exact loc _ e q
        | F => exact val _ _ (by decide) e q
        | B => exact val _ _ (by decide) e q
      | tp ts => exact loc _ e q
      | ls ts => exact loc _ e q
      | ob c ts => exact loc _ e q
      | loc j => exact loc _ e q
def eC (d : D) : Ev := fun ρ => .ok (.v .F d) ρ
theorem v_int {i j pos} : PEv X G W ios (.Constant (.int i) j pos) (eC (.int i)) := pe_imp pe_int fun σ H Q q => by
  obtain ⟨pr, io, s, rfl, hi, r, q⟩ := of_tEv q
  exact q.done r (by simp only [Rep])
theorem v_bl {b j pos} : PEv X G W ios (.Constant (.bool b) j pos) (eC (.bl b)) := pe_imp pe_bl fun σ H Q q => by
  obtain ⟨pr, io, s, rfl, hi, r, q⟩ := of_tEv q
  exact q.done r (by simp only [Rep])
theorem v_non {j pos} : PEv X G W ios (.Constant .none j pos) (eC .non) := pe_imp pe_non fun σ H Q q => by
  obtain ⟨pr, io, s, rfl, hi, r, q⟩ := of_tEv q
  exact q.done r (by simp only [Rep])
theorem v_str {x j pos} : PEv X G W ios (.Constant (.str x) j pos) (eC (.str x)) := pe_imp pe_str fun σ H Q q => by
  obtain ⟨pr, io, s, rfl, hi, r, q⟩ := of_tEv q
  exact q.done r (by simp only [Rep])
end
end PV

namespace PV
open PySem PySem.Spec L2
section
variable {G : Gx} {W : WX} {pr : Addr → Prop} {io : List (Nat × V)} {σ : L2.St} {s s1 : Sx} {ios : List Nat} {Q : VK} {X : Cx} {a b c : Expr} {pos : Pos} {ga gb gc : Ev}

/-! ### what is owned is shared from now on; what is owned is handed on -/
def Sx.frz (s : Sx) (ot : List Addr) (ρ : Ss) (os : List Addr) : Sx := { H := s.H, fz := fun a => s.fz a ∨ a ∈ ot, os := os, ρ := ρ }
def eF (g : Ev) : Ev := fun ρ => (g ρ).bind fun t ρ1 => match t with
  | .loc i => match ρ1[i]? with
    | some (some t0) => match frz t0 with
      | some d => .ok (.v .F d) (ρ1.set i (some (.v .F d)))
      | none => .no
    | _ => .no
  | t => match frz t with
    | some d => .ok (.v .F d) ρ1
    | none => .no
def eM (g : Ev) : Ev := fun ρ => (g ρ).bind fun t ρ1 => match t with
  | .loc i => match ρ1[i]? with
    | some (some t0) => .ok t0 (ρ1.set i none)
    | _ => .no
  | t => .ok t ρ1
/-- values in flight are shared from now on -/
theorem SR.frzO (r : SR G pr io σ s) {ot : List Addr} (own : ∀ a ∈ ot, Own s.H a) (sep : ∀ a ∈ ot, ¬ s.fz a ∧ ¬ pr a ∧ a ∉ s.os) : SR G pr io σ (s.frz ot s.ρ s.os) := by
  refine ⟨Sl.keep (fun _ h => .inl h) (fun _ h => .inr h) (Tk.refl _) (fun a o _ e => e) r.sl, r.nd, fun a ha => ⟨fun z => z.elim (r.sep a ha).1 fun z => (sep a z).2.2 ha, (r.sep a ha).2⟩, fun a h => ?_, r.iov⟩
  rcases h with (h | h) | h
  · exact r.dom a (.inl h)
  · exact (own a h).ne
  · exact r.dom a (.inr h)
theorem Ext.frzO (e : Ext s s1) {ot : List Addr} (f : Frs s ot) : Ext s (s1.frz ot s1.ρ s1.os) :=
  ⟨e.keep, e.dom, e.tk, fun a h => .inl (e.fz a h), fun a h => h.elim (e.fzo a) fun z => .inr (f a z), e.oso⟩
theorem tp_none {t : Tm} {v : V} (h : TmR G s.H s.fz pr t v []) (hl : ∀ i, t ≠ .loc i) : Tp G pr σ s t v [] := ⟨by
  cases t with
  | loc i => exact absurd rfl (hl i)
  | v k d => exact h
  | tp ts => exact h
  | ls ts => exact h
  | ob c ts => exact h, .nil, fun a ha => by cases ha⟩
theorem tm_of {t : Tm} {v : V} {ot : List Addr} (h : TmT G pr σ s t v ot) (hl : ∀ i, t ≠ .loc i) : TmR G s.H s.fz pr t v ot := by
  cases t with
  | loc i => exact absurd rfl (hl i)
  | v k d => exact h
  | tp ts => exact h
  | ls ts => exact h
  | ob c ts => exact h
theorem loc_of {t : Tm} {v : V} {ot : List Addr} (h : TmR G s.H s.fz pr t v ot) : TmT G pr σ s t v ot := by
  cases t with
  | loc i => exact h.elim
  | v k d => exact h
  | tp ts => exact h
  | ls ts => exact h
  | ob c ts => exact h
theorem fz_read {H : Hp} (q : tEv G W ios (eF ga) σ H Q) : tEv G W ios ga σ H Q := by
  obtain ⟨pr, io, s, rfl, hi, r, q⟩ := of_tEv q
  refine tEv_of hi r (OuP.bind0 q fun t v s1 ot r1 x1 p1 f1 q1 => ?_)
  have temp : ∀ d, (∀ i, t ≠ .loc i) → frz t = some d → OuP G W pr io σ s (.ok (.v .F d) s1.ρ) Q → Q v s1.H := fun d hl e q => by
    refine q v (s1.frz ot s1.ρ s1.os) [] rfl (r1.frzO (fun a ha => p1.rel.own a ha) p1.sep) (x1.frzO f1) ⟨?_, .nil, fun a ha => by cases ha⟩ Frs.nil
    show TmR _ _ _ _ _ _ _
    simp only [TmR]
    exact ⟨trivial, TmR.frz _ _ _ _ (tm_of p1.rel hl) e⟩
  cases t with
  | loc i =>
    simp only at q1
    cases e : s1.ρ[i]? with
    | none => simp only [e] at q1; exact q1.elim
    | some o =>
      cases o with
      | none => simp only [e] at q1; exact q1.elim
      | some t0 =>
        simp only [e] at q1
        cases e2 : frz t0 with
        | none => simp only [e2] at q1; exact q1.elim
        | some d =>
          simp only [e2] at q1
          obtain ⟨_, hv⟩ := p1.rel
          obtain ⟨v', o1, o2, o3, e3, e4, h0, hput⟩ := Sl.get r1.sl e
          rw [hv] at e3; cases e3
          have nd := r1.nd
          rw [e4, List.nodup_append, List.nodup_append] at nd
          have hd := TmR.frz _ _ _ _ h0 e2
          have hs : Sl G s1.H (fun a => s1.fz a ∨ a ∈ o2) pr (s1.ρ.set i (some (.v .F d))) σ (o1 ++ ([] ++ o3)) :=
            hput (.v .F d) s1.H (fun a => s1.fz a ∨ a ∈ o2) [] (by simp only [TmR]; exact ⟨trivial, hd⟩) (fun a o _ e => e) (fun a h => .inl h) (Tk.refl _)
          refine q1 v (s1.frz o2 (s1.ρ.set i (some (.v .F d))) (o1 ++ ([] ++ o3))) [] rfl ⟨hs, ?_, fun a ha => ⟨fun z => ?_, ?_⟩, fun a h => ?_, r1.iov⟩ ?_ ⟨?_, .nil, fun a ha => by cases ha⟩ Frs.nil
          · show (o1 ++ ([] ++ o3)).Nodup
            rw [List.nil_append, List.nodup_append]
            exact ⟨nd.1, nd.2.1.2.1, fun a ha b hb => nd.2.2 a ha b (List.mem_append_right _ hb)⟩
          · have ha' : a ∈ o1 ∨ a ∈ o3 := by simpa [Sx.frz] using ha
            rcases z with z | z
            · exact (r1.sep a (by rw [e4]; rcases ha' with h | h <;> simp [h])).1 z
            · rcases ha' with h | h
              · exact nd.2.2 a h a (List.mem_append_left _ z) rfl
              · exact nd.2.1.2.2 a z a h rfl
          · have ha' : a ∈ o1 ∨ a ∈ o3 := by simpa [Sx.frz] using ha
            exact (r1.sep a (by rw [e4]; rcases ha' with h | h <;> simp [h])).2
          · rcases h with (h | h) | h
            · exact r1.dom a (.inl h)
            · exact (TmR.own _ _ _ h0 a h).ne
            · exact r1.dom a (.inr h)
          · refine ⟨x1.keep, x1.dom, x1.tk, fun a h => .inl (x1.fz a h), fun a h => ?_, fun a h => ?_⟩
            · rcases h with h | h
              · exact x1.fzo a h
              · exact .inr (x1.oso a (by rw [e4]; simp [h]))
            · have ha' : a ∈ o1 ∨ a ∈ o3 := by simpa [Sx.frz] using h
              exact x1.oso a (by rw [e4]; rcases ha' with h | h <;> simp [h])
          · show TmR _ _ _ _ _ _ _
            simp only [TmR]
            exact ⟨trivial, hd⟩
  | v k d =>
    simp only at q1
    cases e : frz (.v k d) with
    | none => rw [e] at q1; exact q1.elim
    | some d' => rw [e] at q1; exact temp d' (fun i z => nomatch z) e q1
  | tp ts =>
    simp only at q1
    cases e : frz (.tp ts) with
    | none => rw [e] at q1; exact q1.elim
    | some d' => rw [e] at q1; exact temp d' (fun i z => nomatch z) e q1
  | ls ts =>
    simp only at q1
    cases e : frz (.ls ts) with
    | none => rw [e] at q1; exact q1.elim
    | some d' => rw [e] at q1; exact temp d' (fun i z => nomatch z) e q1
  | ob c ts =>
    simp only at q1
    cases e : frz (.ob c ts) with
    | none => rw [e] at q1; exact q1.elim
    | some d' => rw [e] at q1; exact temp d' (fun i z => nomatch z) e q1
theorem v_fz (ha : PEv X G W ios a ga) : PEv X G W ios a (eF ga) := pe_imp ha fun _ _ _ q => fz_read q
theorem v_mv (ha : PEv X G W ios a ga) : PEv X G W ios a (eM ga) := pe_imp ha fun σ H Q q => by
  obtain ⟨pr, io, s, rfl, hi, r, q⟩ := of_tEv q
  refine tEv_of hi r (OuP.bind0 q fun t v s1 ot r1 x1 p1 f1 q1 => ?_)
  cases t with
  | loc i =>
    simp only at q1
    cases e : s1.ρ[i]? with
    | none => simp only [e] at q1; exact q1.elim
    | some o =>
      cases o with
      | none => simp only [e] at q1; exact q1.elim
      | some t0 =>
        simp only [e] at q1
        obtain ⟨_, hv⟩ := p1.rel
        obtain ⟨v', o1, o2, o3, e3, e4, h0, hs⟩ := Sl.drop r1.sl e
        rw [hv] at e3; cases e3
        have nd := r1.nd
        rw [e4, List.nodup_append, List.nodup_append] at nd
        refine q1 v { s1 with ρ := s1.ρ.set i none, os := o1 ++ o3 } o2 rfl ⟨hs, ?_, fun a ha => ?_, r1.dom, r1.iov⟩ ?_ ⟨loc_of h0, nd.2.1.1, fun a ha => ?_⟩ fun a ha => ?_
        · show (o1 ++ o3).Nodup
          rw [List.nodup_append]
          exact ⟨nd.1, nd.2.1.2.1, fun a ha b hb => nd.2.2 a ha b (List.mem_append_right _ hb)⟩
        · have ha' : a ∈ o1 ∨ a ∈ o3 := by simpa using ha
          exact r1.sep a (by rw [e4]; rcases ha' with h | h <;> simp [h])
        · refine ⟨x1.keep, x1.dom, x1.tk, x1.fz, x1.fzo, fun a h => ?_⟩
          have ha' : a ∈ o1 ∨ a ∈ o3 := by simpa using h
          exact x1.oso a (by rw [e4]; rcases ha' with h | h <;> simp [h])
        · have := r1.sep a (by rw [e4]; simp [ha])
          refine ⟨this.1, this.2, fun z => ?_⟩
          have ha' : a ∈ o1 ∨ a ∈ o3 := by simpa using z
          rcases ha' with h | h
          · exact nd.2.2 a h a (List.mem_append_left _ ha) rfl
          · exact nd.2.1.2.2 a ha a h rfl
        · exact x1.oso a (by rw [e4]; simp [ha])
  | v k d => exact q1 v s1 ot rfl r1 x1 p1 f1
  | tp ts => exact q1 v s1 ot rfl r1 x1 p1 f1
  | ls ts => exact q1 v s1 ot rfl r1 x1 p1 f1
  | ob c ts => exact q1 v s1 ot rfl r1 x1 p1 f1

/-! ### tests -/
abbrev PTv (X : Cx) (G : Gx) (W : WX) (ios : List Nat) (x : Expr) (g : Ev) : Prop := PT X x (tTest (tEv G W ios g))
theorem t_cmp {op : CmpOp} {r : R2} {f : Tm → Tm → Option Tm} (ho : OpR X (compareOp op) r) (h : Op2 G W f r) (ha : PEv X G W ios a ga) (hb : PEv X G W ios b gb) (hm : behindInMarks op b = false) : PTv X G W ios (.Compare a [op] [b] pos) (eOp2 f ga gb) :=
  pt_imp (pt_cmpR ho ha hb hm) fun σ H Q q => op2_end h q
theorem t_val (ha : PEv X G W ios a ga) (he : ∀ whole, isTrue a X.env whole = (do let v ← whole; standAt a.pos; holding [v] (truthy v)) := by intro _; rfl) : PTv X G W ios a ga := pt_val ha he
/-- a bool in flight -/
def asB : Tm → Option Bool
  | .v _ (.bl b) => some b
  | _ => none
theorem asB_of {t : Tm} {v : V} {ot : List Addr} {x : Bool} (p : Tp G pr σ s t v ot) (e : asB t = some x) : v = .bl x := by
  have h := p.rel
  cases t with
  | v k d =>
    cases d <;> simp only [asB, reduceCtorEq, Option.some.injEq] at e
    subst e
    cases k <;> simp only [TmT, TmR, Rep, RepO] at h <;> exact h.2
  | loc i => simp [asB] at e
  | tp ts => simp [asB] at e
  | ls ts => simp [asB] at e
  | ob c ts => simp [asB] at e
def eNot (g : Ev) : Ev := fun ρ => (g ρ).bind fun t ρ1 => match asB t with
  | some b => .ok (.v .F (.bl (!b))) ρ1
  | none => .no
def eAnd (ga gb : Ev) : Ev := fun ρ => (ga ρ).bind fun t ρ1 => match asB t with
  | some true => gb ρ1
  | some false => .ok (.v .F (.bl false)) ρ1
  | none => .no
def eOr (ga gb : Ev) : Ev := fun ρ => (ga ρ).bind fun t ρ1 => match asB t with
  | some true => .ok (.v .F (.bl true)) ρ1
  | some false => gb ρ1
  | none => .no
def eIf (gc ga gb : Ev) : Ev := fun ρ => (gc ρ).bind fun t ρ1 => match asB t with
  | some true => ga ρ1
  | some false => gb ρ1
  | none => .no
/-- a test's reading -/
theorem tTest_of {g : Ev} {k : Bool → Ss → Ou} {Q : VK} (hi : io.map Prod.fst = ios) (r : SR G pr io σ s) {R : Bool → Hp → Prop}
    (q : OuP G W pr io σ s ((g s.ρ).bind fun t ρ1 => match asB t with | some b => k b ρ1 | none => .no) Q) (h : ∀ b s1, SR G pr io σ s1 → Ext s s1 → OuP G W pr io σ s1 (k b s1.ρ) Q → R b s1.H) : tTest (tEv G W ios g) σ s.H R := by
  refine tEv_of hi r (OuP.bind q fun t v s1 ot r1 x1 p1 f1 q1 => ?_)
  cases e : asB t with
  | none => rw [e] at q1; exact q1.elim
  | some b =>
    rw [e] at q1
    exact ⟨b, asB_of p1 e, h b s1 r1 x1 q1⟩
theorem OuP.isB (r : SR G pr io σ s) {x : Bool} {R : Bool → Hp → Prop} (q : OuP G W pr io σ s (.ok (.v .F (.bl x)) s.ρ) fun v H => ∃ k, v = .bl k ∧ R k H) : R x s.H := by
  obtain ⟨k, e, h⟩ := q.done (v := .bl x) r (by simp only [Rep])
  cases e
  exact h
theorem t_not (ha : PTv X G W ios a ga) : PTv X G W ios (.UnaryOp .Not a pos) (eNot ga) := pt_imp (pt_not ha) fun σ H Q q => by
  obtain ⟨pr, io, s, rfl, hi, r, q⟩ := of_tEv q
  exact tTest_of hi r (k := fun b ρ1 => .ok (.v .F (.bl (!b))) ρ1) q fun b s1 r1 x1 q1 => q1.isB r1
theorem match_eta (o : Option Bool) (A B : Ou) : (match o with | some true => A | some false => B | none => Ou.no) = (match o with | some b => (if b = true then A else B) | none => Ou.no) := by
  cases o with
  | none => rfl
  | some b => cases b <;> rfl
theorem t_and {rest : List Expr} (ha : PTv X G W ios a ga) (hb : PW X (.BoolOp .And (b :: rest) pos) (tTest (tEv G W ios gb))) : PW X (.BoolOp .And (a :: b :: rest) pos) (tTest (tEv G W ios (eAnd ga gb))) := by
  refine ⟨fun wh pins s σ H Q I q => (pw_and ha hb).run wh pins s σ H Q I ?_⟩
  obtain ⟨pr, io, s, rfl, hi, r, q⟩ := of_tEv q
  refine tTest_of hi r (k := fun b ρ1 => if b = true then gb ρ1 else .ok (.v .F (.bl false)) ρ1) (by simpa only [eAnd, match_eta] using q) fun b s1 r1 x1 q1 => ?_
  cases b with
  | true => exact iteT (tEv_of hi r1 q1)
  | false => exact iteF (q1.isB r1)
theorem t_or {rest : List Expr} (ha : PTv X G W ios a ga) (hb : PW X (.BoolOp .Or (b :: rest) pos) (tTest (tEv G W ios gb))) : PW X (.BoolOp .Or (a :: b :: rest) pos) (tTest (tEv G W ios (eOr ga gb))) := by
  refine ⟨fun wh pins s σ H Q I q => (pw_or ha hb).run wh pins s σ H Q I ?_⟩
  obtain ⟨pr, io, s, rfl, hi, r, q⟩ := of_tEv q
  refine tTest_of hi r (k := fun b ρ1 => if b = true then .ok (.v .F (.bl true)) ρ1 else gb ρ1) (by simpa only [eOr, match_eta] using q) fun b s1 r1 x1 q1 => ?_
  cases b with
  | true => exact iteT (q1.isB r1)
  | false => exact iteF (tEv_of hi r1 q1)
theorem t_and1 (ha : PTv X G W ios a ga) : PW X (.BoolOp .And [a] pos) (tTest (tEv G W ios ga)) := pw_and1 ha
theorem t_or1 (ha : PTv X G W ios a ga) : PW X (.BoolOp .Or [a] pos) (tTest (tEv G W ios ga)) := pw_or1 ha
theorem v_ifx (hc : PTv X G W ios c gc) (ha : PEv X G W ios a ga) (hb : PEv X G W ios b gb) : PEv X G W ios (.IfExp c a b pos) (eIf gc ga gb) := pe_imp (pe_ifExp hc ha hb) fun σ H Q q => by
  obtain ⟨pr, io, s, rfl, hi, r, q⟩ := of_tEv q
  refine tTest_of hi r (k := fun b ρ1 => if b = true then ga ρ1 else gb ρ1) (by simpa only [eIf, match_eta] using q) fun b s1 r1 x1 q1 => ?_
  cases b with
  | true => exact iteT (tEv_of hi r1 q1)
  | false => exact iteF (tEv_of hi r1 q1)
/-! ### is None -/
def isNon : D → Bool
  | .non => true
  | _ => false
theorem isNon_rep {H : Hp} {P : Addr → Prop} {d : D} {v : V} (h : Rep G H P d v) : decide (v = .non) = isNon d := by
  cases d <;> simp only [Rep] at h
  · subst h; rfl
  · subst h; rfl
  · subst h; rfl
  · subst h; rfl
  · obtain ⟨a, _, rfl, _⟩ := h; rfl
  · obtain ⟨a, _, rfl, _⟩ := h; rfl
  · obtain ⟨a, _, rfl, _⟩ := h; rfl
  · obtain ⟨a, _, _, _, rfl, _⟩ := h; rfl
  · obtain ⟨a, _, _, rfl, _⟩ := h; rfl
  · obtain ⟨a, rfl, _⟩ := h; rfl
  · obtain ⟨a, rfl, _⟩ := h; rfl
  · obtain ⟨a, _, _, rfl, _⟩ := h; rfl
  · rcases h with ⟨_, a, rfl⟩ | ⟨_, a, rfl⟩ <;> rfl
  · subst h; rfl
def eIsN : Ev → Ev → Ev := eOp2 (rd2 fun x y => if isNon y = true then some (.bl (isNon x)) else none)
def eNotN : Ev → Ev → Ev := eOp2 (rd2 fun x y => if isNon y = true then some (.bl (!isNon x)) else none)
theorem isNon_v {H : Hp} {P : Addr → Prop} {d : D} {v : V} (h : Rep G H P d v) (e : isNon d = true) : v = .non := by
  rw [← isNon_rep h] at e
  exact of_decide_eq_true e
theorem rdIsN : Rd2 G (fun x y => if isNon y = true then some (.bl (isNon x)) else none) (fun x y H Q => y = .non ∧ Q (.bl (decide (x = .non))) H) := by
  intro H x y dx dy d Q hx hy e q
  simp only at e
  split at e
  · rename_i h
    cases e
    exact ⟨isNon_v hy h, q _ fun P => by simp only [Rep]; rw [isNon_rep hx]⟩
  · cases e
/-! ### argument lists, displays -/
def gNil : Ss → OuL := fun ρ => .ok [] ρ
def gCons (g : Ev) (gs : Ss → OuL) : Ss → OuL := fun ρ => (g ρ).bindL fun t ρ1 => (gs ρ1).bindL fun ts ρ2 => .ok (t :: ts) ρ2
theorem TmTs.own {ts : List Tm} {vs : List V} {ot : List Addr} (h : TmTs G pr σ s ts vs ot) : ∀ a ∈ ot, Own s.H a := by
  induction ts generalizing vs ot with
  | nil => obtain ⟨_, rfl⟩ := h; intro a ha; cases ha
  | cons t ts ih =>
    obtain ⟨v, r, o1, o2, rfl, rfl, h1, h2⟩ := h
    intro a ha
    rcases List.mem_append.mp ha with ha | ha
    · exact h1.own a ha
    · exact ih h2 a ha
theorem va_nil : PAv X G W ios [] gNil := pa_imp pa_nil fun σ H Q q => by
  obtain ⟨pr, io, s, rfl, hi, r, q⟩ := of_tEvs q
  exact q [] s [] rfl r (Ext.refl s) ⟨⟨rfl, rfl⟩, .nil, fun a ha => by cases ha⟩ Frs.nil
theorem Tps.cons {t : Tm} {ts : List Tm} {v : V} {vs : List V} {o1 o2 : List Addr} {s2 : Sx} (p1 : Tp G pr σ s1 t v o1) (r1 : SR G pr io σ s1) (x2 : Ext s1 s2) (p2 : Tps G pr σ s2 ts vs o2) (f2 : Frs s1 o2) : Tps G pr σ s2 (t :: ts) (v :: vs) (o1 ++ o2) := by
  have p1' := p1.on r1 x2
  refine ⟨⟨v, vs, o1, o2, rfl, rfl, p1'.rel, p2.rel⟩, ?_, fun a ha => ?_⟩
  · rw [List.nodup_append]
    exact ⟨p1.nd, p2.nd, fun a ha b hb e => by subst e; exact p1.apart f2 a ha hb⟩
  · rcases List.mem_append.mp ha with ha | ha
    · exact p1'.sep a ha
    · exact p2.sep a ha
theorem Frs.app {o1 o2 : List Addr} (f1 : Frs s o1) (f2 : Frs s o2) : Frs s (o1 ++ o2) := fun a ha => (List.mem_append.mp ha).elim (f1 a) (f2 a)
theorem va_cons {e : Expr} {es : List Expr} {gs : Ss → OuL} (ha : PEv X G W ios e ga) (hr : PAv X G W ios es gs) (hs : starEach (e :: es) X.env = (false, eval e X.env) :: starEach es X.env := by rfl) : PAv X G W ios (e :: es) (gCons ga gs) := pa_imp (pa_cons ha hr hs) fun σ H Q q => by
  obtain ⟨pr, io, s, rfl, hi, r, q⟩ := of_tEvs q
  refine tEv_of hi r (OuP.bindLG (Ext.refl s) q fun t v s1 o1 r1 x1 p1 f1 q1 => ?_)
  refine tEvs_of hi r1 (OuLP.bindLG x1 q1 fun ts vs s2 o2 r2 x2 p2 f2 q2 => ?_)
  exact q2 (v :: vs) s2 (o1 ++ o2) rfl r2 (x1.trans x2) (Tps.cons p1 r1 x2 p2 f2) (f1.app (f2.on x1))
/-- frozen: all values of a list in flight -/
theorem TmTs.frz : ∀ {ts : List Tm} {vs : List V} {ot : List Addr} {ds : List D}, TmTs G pr σ s ts vs ot → PV.frzs ts = some ds → Reps G s.H (fun a => s.fz a ∨ a ∈ ot) ds vs
  | [], vs, ot, ds, h, e => by obtain ⟨rfl, _⟩ := h; simp only [PV.frzs, Option.some.injEq] at e; subst e; simp only [Reps]
  | t :: ts, vs, ot, ds, h, e => by
    obtain ⟨v, r, o1, o2, rfl, rfl, h1, h2⟩ := h
    simp only [PV.frzs] at e
    cases e1 : PV.frz t with
    | none => rw [e1] at e; cases e
    | some d =>
      cases e2 : PV.frzs ts with
      | none => rw [e1, e2] at e; cases e
      | some ds' =>
        rw [e1, e2] at e
        cases e
        have hl : ∀ i, t ≠ .loc i := fun i z => by subst z; simp [PV.frz] at e1
        simp only [Reps]
        exact ⟨v, r, rfl, (TmR.frz _ _ _ _ (tm_of h1 hl) e1).mono fun a p => p.elim .inl fun z => .inr (List.mem_append_left _ z), (TmTs.frz h2 e2).mono fun a p => p.elim .inl fun z => .inr (List.mem_append_right _ z)⟩
def eTup (gs : Ss → OuL) : Ev := fun ρ => (gs ρ).bind fun ts ρ1 => match frzs ts with
  | some ds => if ds.length ≤ sizeLine then .ok (.v .F (.tup ds)) ρ1 else .no
  | none => .no
def eLst (gs : Ss → OuL) : Ev := fun ρ => (gs ρ).bind fun ts ρ1 => match frzs ts with
  | some ds => if ds.length ≤ sizeLine then .ok (.v .O (.lst ds)) ρ1 else .no
  | none => .no
/-- own parts in a tuple, in a list -/
def eTpO (gs : Ss → OuL) : Ev := fun ρ => (gs ρ).bind fun ts ρ1 => if ts.length ≤ sizeLine ∧ (ts.all fun t => match t with | .loc _ => false | _ => true) = true then .ok (.tp ts) ρ1 else .no
def eLsO (gs : Ss → OuL) : Ev := fun ρ => (gs ρ).bind fun ts ρ1 => if ts.length ≤ sizeLine ∧ (ts.all fun t => match t with | .loc _ => false | _ => true) = true then .ok (.ls ts) ρ1 else .no
variable {es : List Expr} {gs : Ss → OuL}
theorem v_tup {x1} (h : PAv X G W ios es gs) : PEv X G W ios (.Tuple es x1 pos) (eTup gs) := pe_imp (pe_tup h) fun σ H Q q => by
  obtain ⟨pr, io, s, rfl, hi, r, q⟩ := of_tEv q
  refine tEvs_of hi r (OuLP.bind0 q fun ts vs s1 ot r1 x1 p1 f1 q1 => ?_)
  cases e : frzs ts with
  | none => rw [e] at q1; exact q1.elim
  | some ds =>
    rw [e] at q1
    simp only at q1
    split at q1
    · rename_i hl
      have hd := p1.rel.frz e
      have r2 := r1.frzO (ot := ot) p1.rel.own p1.sep
      have x2 := x1.frzO f1
      exact ⟨by rw [← hd.len]; exact hl, fun p hp => OuP.tup (s := s1.frz ot s1.ρ s1.os) (OuP.later q1 x2) r2 hd hp⟩
    · exact q1.elim
theorem v_lst (h : PAv X G W ios es gs) : PEv X G W ios (.List es pos) (eLst gs) := pe_imp (pe_lst h) fun σ H Q q => by
  obtain ⟨pr, io, s, rfl, hi, r, q⟩ := of_tEv q
  refine tEvs_of hi r (OuLP.bind0 q fun ts vs s1 ot r1 x1 p1 f1 q1 => ?_)
  cases e : frzs ts with
  | none => rw [e] at q1; exact q1.elim
  | some ds =>
    rw [e] at q1
    simp only at q1
    split at q1
    · rename_i hl
      have hd := p1.rel.frz e
      have r2 := r1.frzO (ot := ot) p1.rel.own p1.sep
      have x2 := x1.frzO f1
      exact ⟨by rw [← hd.len]; exact hl, fun p hp => OuP.lst (s := s1.frz ot s1.ρ s1.os) (OuP.later q1 x2) r2 hd hp⟩
    · exact q1.elim
theorem TmTs.tm : ∀ {ts : List Tm} {vs : List V} {ot : List Addr}, TmTs G pr σ s ts vs ot → (ts.all fun t => match t with | .loc _ => false | _ => true) = true → TmRs G s.H s.fz pr ts vs ot
  | [], vs, ot, h, e => by simp only [TmRs]; exact h
  | t :: ts, vs, ot, h, e => by
    obtain ⟨v, r, o1, o2, rfl, rfl, h1, h2⟩ := h
    rw [List.all_cons, Bool.and_eq_true] at e
    simp only [TmRs]
    exact ⟨v, r, o1, o2, rfl, rfl, tm_of h1 fun i z => by subst z; simp at e, TmTs.tm h2 e.2⟩
theorem TmRs.len {H : Hp} {fz : Addr → Prop} : ∀ {ts : List Tm} {vs : List V} {ot : List Addr}, TmRs G H fz pr ts vs ot → ts.length = vs.length
  | [], vs, ot, h => by simp only [TmRs] at h; rw [h.1]; rfl
  | t :: ts, vs, ot, h => by simp only [TmRs] at h; obtain ⟨v, r, o1, o2, rfl, rfl, h1, h2⟩ := h; simp [TmRs.len h2]
end
end PV

namespace PV
open PySem PySem.Spec L2
section
variable {G : Gx} {W : WX} {pr : Addr → Prop} {io : List (Nat × V)} {σ : L2.St} {s s1 : Sx} {ios : List Nat} {Q : VK} {X : Cx} {a b c : Expr} {pos p : Pos} {ga gb gc : Ev} {x : Str}

/-! ### a[b] -/
def subK (k : Kd) (d : D) : Tm := match k with
  | .B => .v .B d
  | _ => .v .F d
def idxV (k : Kd) (x y : D) : Option Tm := match x, y with
  | .lst xs, .int i => (atI xs i).map (subK k)
  | .tup xs, .int i => (atI xs i).map (subK k)
  | .scr ns, .int i => (atI ns i).map fun n => .v .F (.int n)
  | .str z, .int i => if z.length ≤ sizeLine then (atI z.cps.toList i).map fun c => .v .F (.str ⟨#[c]⟩) else none
  | _, _ => none
def opIdx (a b : Tm) : Option Tm := match a, b with
  | .v k x, .v _ y => idxV k x y
  | _, _ => none
def eIdx : Ev → Ev → Ev := eOp2 opIdx
theorem Reps.atI {H : Hp} {P : Addr → Prop} {ds : List D} {vs : List V} {i : Int} {d : D} (h : Reps G H P ds vs) (e : L2.atI ds i = some d) : ∃ v, L2.atI vs i = some v ∧ Rep G H P d v := by
  unfold L2.atI at e ⊢
  rw [← h.len]
  cases q : ixN ds.length i with
  | none => rw [q] at e; cases e
  | some j =>
    rw [q] at e
    exact h.get e
/-- the part of a value -/
theorem OuP.sub {k : Kd} {d : D} {v : V} (h : OuP G W pr io σ s (.ok (subK k d) s.ρ) Q) (r : SR G pr io σ s) (hd : Rep G s.H (if k = .B then fun a => s.fz a ∨ pr a else s.fz) d v) : Q v s.H := by
  cases k with
  | F => exact h.done r (by simpa using hd)
  | O => exact h.done r (by simpa using hd)
  | B =>
    refine h.here r (ot := []) ⟨?_, .nil, fun a ha => by cases ha⟩ Frs.nil
    show TmR G s.H s.fz pr (.v .B d) v []
    simp only [TmR]
    exact ⟨trivial, by simpa using hd⟩
theorem lst_all {H : Hp} {fz : Addr → Prop} {k : Kd} {xs : List D} {x : V} {ox : List Addr} (h : TmR G H fz pr (.v k (.lst xs)) x ox) : ∃ a vs, x = .ref a ∧ H a = some (.lst vs) ∧ Reps G H (if k = .B then fun a => fz a ∨ pr a else fz) xs vs := by
  cases k with
  | F => simp only [TmR, Rep] at h; obtain ⟨_, a, vs, e1, _, e2, h⟩ := h; exact ⟨a, vs, e1, e2, by simpa using h⟩
  | B => simp only [TmR, Rep] at h; obtain ⟨_, a, vs, e1, _, e2, h⟩ := h; exact ⟨a, vs, e1, e2, by simpa using h⟩
  | O => simp only [TmR, RepO] at h; obtain ⟨a, vs, e1, _, e2, h⟩ := h; exact ⟨a, vs, e1, e2, by simpa using h⟩
theorem tup_all {H : Hp} {fz : Addr → Prop} {k : Kd} {xs : List D} {x : V} {ox : List Addr} (h : TmR G H fz pr (.v k (.tup xs)) x ox) : ∃ a vs, x = .ref a ∧ H a = some (.tup vs) ∧ Reps G H (if k = .B then fun a => fz a ∨ pr a else fz) xs vs := by
  cases k with
  | F => simp only [TmR, Rep] at h; obtain ⟨_, a, vs, e1, e2, h⟩ := h; exact ⟨a, vs, e1, e2, by simpa using h⟩
  | B => simp only [TmR, Rep] at h; obtain ⟨_, a, vs, e1, e2, h⟩ := h; exact ⟨a, vs, e1, e2, by simpa using h⟩
  | O => simp only [TmR, RepO, Rep] at h; obtain ⟨_, a, vs, e1, e2, h⟩ := h; exact ⟨a, vs, e1, e2, by simpa using h⟩
theorem op2_idx {K : PySem.W.Frag} (hK : G.K = K) : Op2 G W opIdx (rIx K) := by
  intro pr io σ s x y tx ty t ox oy Q hr hx hy e q
  cases tx <;> cases ty <;> simp only [opIdx, reduceCtorEq] at e
  rename_i k d k' d'
  have ry := TmR.toD _ _ _ hy
  cases d <;> cases d' <;> simp only [idxV, reduceCtorEq, Option.map_eq_some_iff] at e <;> simp only [toD, Rep] at ry
  · rename_i z i
    split at e
    · rename_i hl
      simp only [Option.map_eq_some_iff] at e
      obtain ⟨c, e, rfl⟩ := e
      have rx := TmR.toD _ _ _ hx
      simp only [toD, Rep] at rx
      exact .inr (.inr ⟨z, i, c, rx, ry, hl, e, q.done hr (by simp only [Rep])⟩)
    · cases e
  · obtain ⟨d0, e, rfl⟩ := e
    obtain ⟨a, vs, rfl, ha, hvs⟩ := tup_all hx
    obtain ⟨v, hv, hd⟩ := hvs.atI e
    exact .inr (.inl ⟨a, vs, _, v, rfl, ry, .of ha, hv, q.sub hr hd⟩)
  · obtain ⟨d0, e, rfl⟩ := e
    obtain ⟨a, vs, rfl, ha, hvs⟩ := lst_all hx
    obtain ⟨v, hv, hd⟩ := hvs.atI e
    exact .inl ⟨a, vs, _, v, rfl, ry, .of ha, hv, q.sub hr hd⟩
  · obtain ⟨n, e, rfl⟩ := e
    have rx := TmR.toD _ _ _ hx
    simp only [toD, Rep] at rx
    obtain ⟨a, rfl, ha⟩ := rx
    refine .inl ⟨a, _, _, .int n, rfl, ry, hK ▸ ha.sq, ?_, q.done hr (by simp only [Rep])⟩
    unfold L2.atI at e ⊢
    rw [List.length_map]
    rename_i ns i
    cases h : ixN ns.length i with
    | none => rw [h] at e; cases e
    | some j =>
      rw [h] at e
      have e' : ns[j]? = some n := e
      show (ns.map V.int)[j]? = some (V.int n)
      rw [List.getElem?_map, e']
      rfl
theorem v_idx (hK : G.K = X.K) (ha : PEv X G W ios a ga) (hb : PEv X G W ios b gb) (hs : PlainIx b := by exact fun _ _ => rfl) : PEv X G W ios (.Subscript a b pos) (eIdx ga gb) := v_ix ix_seq (op2_idx hK) ha hb hs

/-! ### a[lo:hi] -/
def cutD {α : Type} (xs : List α) (lo hi : Option Int) : List α := (xs.drop (HT.sIx xs.length 0 lo)).take (HT.sIx xs.length xs.length hi - HT.sIx xs.length 0 lo)
def asI : Tm → Option Int
  | .v _ (.int i) => some i
  | _ => none
theorem asI_of {t : Tm} {v : V} {ot : List Addr} {i : Int} (p : Tp G pr σ s t v ot) (e : asI t = some i) : v = .int i := by
  have h := p.rel
  cases t with
  | v k d =>
    cases d <;> simp only [asI, reduceCtorEq, Option.some.injEq] at e
    subst e
    cases k <;> simp only [TmT, TmR, Rep, RepO] at h <;> exact h.2
  | loc i => simp [asI] at e
  | tp ts => simp [asI] at e
  | ls ts => simp [asI] at e
  | ob c ts => simp [asI] at e
def slV (k : Kd) (x : D) (l h : Option Int) : Option Tm := match x with
  | .lst xs => (elk k xs).map fun xs => .v .O (.lst (cutD xs l h))
  | .tup xs => some (subK k (.tup (cutD xs l h)))
  | .str z => if z.length ≤ sizeLine then some (.v .F (.str (cutS z l h))) else none
  | _ => none
def opSl (a : Tm) (l h : Option Int) : Option Tm := match a with
  | .v k x => slV k x l h
  | _ => none
def evO (g : Option Ev) (ρ : Ss) (k : Option Int → Ss → Ou) : Ou := match g with
  | none => k none ρ
  | some g => (g ρ).bind fun t ρ1 => match asI t with
    | some i => k (some i) ρ1
    | none => .no
def eSl (ga : Ev) (gl gh : Option Ev) : Ev := fun ρ => (ga ρ).bind fun t ρ1 => evO gl ρ1 fun l ρ2 => evO gh ρ2 fun h ρ3 => match derT ρ3 t with
  | some u => match opSl u l h with
    | some r => .ok r ρ3
    | none => .no
  | none => .no
/-- an optional bound's reading -/
def tPO (G : Gx) (W : WX) (ios : List Nat) : Option Ev → TO
  | none => tNoPart
  | some g => tPart (tEv G W ios g)
def POv (X : Cx) (G : Gx) (W : WX) (ios : List Nat) (e : Option Expr) (g : Option Ev) : Prop := PO X e (tPO G W ios g)
theorem vo_none : POv X G W ios none none := po_none
theorem vo_some (ha : PEv X G W ios a ga) : POv X G W ios (some a) (some ga) := po_some ha
theorem evO_read {g : Option Ev} {k : Option Int → Ss → Ou} {Q : VK} (hi : io.map Prod.fst = ios) (r : SR G pr io σ s) {R : Option Int → Hp → Prop} (q : OuP G W pr io σ s (evO g s.ρ k) Q)
    (h : ∀ i s1, SR G pr io σ s1 → Ext s s1 → OuP G W pr io σ s1 (k i s1.ρ) Q → R i s1.H) : tPO G W ios g σ s.H R := by
  cases g with
  | none => exact h none s r (Ext.refl s) q
  | some g =>
    show tEv G W ios g σ s.H (fun x H1 => ∃ i, x = .int i ∧ R (some i) H1)
    refine tEv_of hi r (OuP.bind q fun t v s1 ot r1 x1 p1 f1 q1 => ?_)
    cases e : asI t with
    | none => rw [e] at q1; exact q1.elim
    | some i =>
      rw [e] at q1
      exact ⟨i, asI_of p1 e, h (some i) s1 r1 x1 q1⟩
theorem cut_reps {H : Hp} {P : Addr → Prop} {ds : List D} {vs : List V} {l h : Option Int} (r : Reps G H P ds vs) : Reps G H P (cutD ds l h) (cutV vs l h) := by
  unfold cutD cutV
  rw [← r.len]
  exact (r.drop _).take _
theorem v_sl {lo hi : Option Expr} {gl gh : Option Ev} {p2 : Pos} (ha : PEv X G W ios a ga) (hl : POv X G W ios lo gl) (hh : POv X G W ios hi gh) : PEv X G W ios (.Subscript a (.Slice lo hi none p2) pos) (eSl ga gl gh) := pe_imp (pe_slice (sl_list.or (sl_tupA.or sl_str)) ha hl hh) fun σ H Q q => by
  obtain ⟨pr, io, s, rfl, hio, r, q⟩ := of_tEv q
  refine tEv_of hio r (OuP.bind q fun t v s1 ot r1 x1 p1 f1 q1 => ?_)
  refine evO_read hio r1 q1 fun l s2 r2 x2 q2 => ?_
  refine evO_read hio r2 q2 fun h s3 r3 x3 q3 => ?_
  have p3 := (p1.on r1 x2).on r2 x3
  cases e : derT s3.ρ t with
  | none => rw [e] at q3; exact q3.elim
  | some u =>
    rw [e] at q3
    obtain ⟨o, hu⟩ := p3.der r3 e
    cases u with
    | v k d =>
      simp only [opSl] at q3
      cases d <;> simp only [slV] at q3
      case str z =>
        split at q3
        · rename_i w e2
          split at e2
          · rename_i hz
            cases e2
            have hx := TmR.toD _ _ _ hu
            simp only [toD, Rep] at hx
            exact .inr (.inr ⟨z, hx, hz, q3.done r3 (by simp only [Rep])⟩)
          · cases e2
        · exact q3.elim
      case tup xs =>
        obtain ⟨a, vs, rfl, h1, h2⟩ := tup_all hu
        refine .inr (.inl ⟨a, vs, rfl, .of h1, fun hw => ?_, fun hw p hp => ?_⟩)
        · refine q3.sub r3 ?_
          simp only [Rep]
          have e3 : cutD xs l h = xs := by
            unfold cutD
            rw [← h2.len] at hw
            rw [hw.1, hw.2]
            simp
          rw [e3]
          exact ⟨a, vs, rfl, h1, h2⟩
        · have hk : TmR G (upd s3.H p (.tup (cutV vs l h))) s3.fz pr (subK k (.tup (cutD xs l h))) (.ref p) [] := by
            have kp : Reps G (upd s3.H p (.tup (cutV vs l h))) (if k = .B then fun a => s3.fz a ∨ pr a else s3.fz) (cutD xs l h) (cutV vs l h) := Reps.keep (fun _ z => z) (fun a o _ e => by show upd _ _ _ _ = _; rw [upd_ne (ne_of_none e hp)]; exact e) (tk_new hp _) _ _ (cut_reps h2)
            cases k <;> simp only [subK, TmR, Rep] <;> exact ⟨trivial, p, _, rfl, upd_same, by simpa using kp⟩
          refine q3 _ (s3.new p (.tup (cutV vs l h))) [] rfl (r3.new hp _) (Ext.new hp _) ⟨?_, .nil, fun a ha => by cases ha⟩ Frs.nil
          cases k <;> exact hk
      case lst xs =>
        cases e2 : elk k xs with
        | none => rw [e2] at q3; exact q3.elim
        | some ys =>
          rw [e2] at q3
          obtain ⟨a, vs, rfl, h1, h2⟩ := lst_items hu e2
          exact .inl ⟨a, vs, rfl, .of h1, fun p hp => q3.lst r3 (cut_reps h2) hp⟩
      all_goals exact q3.elim
    | loc i => simp only [opSl] at q3; exact q3.elim
    | tp ts => simp only [opSl] at q3; exact q3.elim
    | ls ts => simp only [opSl] at q3; exact q3.elim
    | ob c ts => simp only [opSl] at q3; exact q3.elim
/-- xs[::-1] -/
def opRev (t : Tm) : Option Tm := match t with
  | .v k (.lst xs) => (elk k xs).map fun xs => .v .O (.lst xs.reverse)
  | _ => none
def eRev : Ev → Ev := eOp1 opRev
/-! ### built-ins -/
theorem call1 {id : Value} {r : List V → Hp → VK → Prop} {f : Tm → Option Tm} (h : Op1 G W f fun x H Q => r [x] H Q) {σ : L2.St} {H : Hp} {Q : VK} (q : tEv G W ios (eOp1 f ga) σ H Q) : tCB r (tCons (tEv G W ios ga) tNil) σ H Q := op1_end h rfl q
theorem call2 {r : List V → Hp → VK → Prop} {f : Tm → Tm → Option Tm} (h : Op2 G W f fun x y H Q => r [x, y] H Q) {σ : L2.St} {H : Hp} {Q : VK} (q : tEv G W ios (eOp2 f ga gb) σ H Q) : tCB r (tCons (tEv G W ios ga) (tCons (tEv G W ios gb) tNil)) σ H Q := op2_end h q
theorem v_b1 {id : String} {r : List V → Hp → VK → Prop} {f : Tm → Option Tm} (hc : CallR X (.builtin id) r) (h : Op1 G W f fun x H Q => r [x] H Q) (hm : X.mg x = none) (ha : PEv X G W ios a ga) (hg : Gl X x := by rfl) (hv : bootBuiltins x = some (.builtin id) := by decide +kernel)
    (hn : x ≠ "__name__" := by decide) (hdb : (x == ("__debug__" : Str)) = false := by decide) (hs : starEach [a] X.env = (false, eval a X.env) :: starEach [] X.env := by rfl) : PEv X G W ios (.Call (.Name x p) [a] [] pos) (eOp1 f ga) :=
  pe_imp (pe_callB hc hg hm hv (pa_cons ha pa_nil hs) hn hdb hs (by rfl)) fun _ _ _ q => call1 (id := .none) h q
theorem v_ty1 {id : String} {r : List V → Hp → VK → Prop} {f : Tm → Option Tm} (hc : CallR X (.type id) r) (h : Op1 G W f fun x H Q => r [x] H Q) (hm : X.mg x = none) (ha : PEv X G W ios a ga) (hg : Gl X x := by rfl) (hv : bootBuiltins x = some (.type id) := by decide +kernel)
    (hn : x ≠ "__name__" := by decide) (hdb : (x == ("__debug__" : Str)) = false := by decide) (hs : starEach [a] X.env = (false, eval a X.env) :: starEach [] X.env := by rfl) : PEv X G W ios (.Call (.Name x p) [a] [] pos) (eOp1 f ga) :=
  pe_imp (pe_callTy hc hg hm hv (pa_cons ha pa_nil hs) hn hdb hs (by rfl)) fun _ _ _ q => call1 (id := .none) h q
theorem v_b2 {id : String} {r : List V → Hp → VK → Prop} {f : Tm → Tm → Option Tm} (hc : CallR X (.builtin id) r) (h : Op2 G W f fun x y H Q => r [x, y] H Q) (hm : X.mg x = none) (ha : PEv X G W ios a ga) (hb : PEv X G W ios b gb) (hg : Gl X x := by rfl) (hv : bootBuiltins x = some (.builtin id) := by decide +kernel)
    (hn : x ≠ "__name__" := by decide) (hdb : (x == ("__debug__" : Str)) = false := by decide) (hs : starEach [a, b] X.env = (false, eval a X.env) :: starEach [b] X.env := by rfl) (hs2 : starEach [b] X.env = (false, eval b X.env) :: starEach [] X.env := by rfl)
    (hpl : (backTo pos (starEach [b] X.env)).any (·.1) = false := by rfl) : PEv X G W ios (.Call (.Name x p) [a, b] [] pos) (eOp2 f ga gb) :=
  pe_imp (pe_callB hc hg hm hv (pa_cons ha (pa_cons hb pa_nil hs2) hs) hn hdb hs hpl) fun _ _ _ q => call2 h q
/-- len -/
def lenD : D → Option D
  | .str z => if z.length ≤ sizeLine then some (.int z.length) else none
  | .lst xs => some (.int xs.length)
  | .tup xs => some (.int xs.length)
  | .scr xs => some (.int xs.length)
  | _ => none
theorem rdLen {K : PySem.W.Frag} (hK : G.K = K) : Rd1 G lenD (fun x H Q => (fun xs H Q => ∃ x n, xs = [x] ∧ LenV K x H n ∧ Q (.int n) H : List V → Hp → VK → Prop) [x] H Q) := by
  intro H x dx d Q hx e q
  cases dx <;> simp only [lenD, Option.some.injEq, reduceCtorEq] at e <;> simp only [Rep] at hx
  · rename_i z
    split at e
    · rename_i hz
      cases e
      subst hx
      exact ⟨_, z.length, rfl, ⟨hz, rfl⟩, q _ fun P => by simp only [Rep]⟩
    · cases e
  · obtain ⟨a, vs, rfl, h1, h2⟩ := hx
    subst e
    exact ⟨_, vs.length, rfl, .inr ⟨vs, .of h1, rfl⟩, q _ fun P => by simp only [Rep]; rw [h2.len]⟩
  · obtain ⟨a, vs, rfl, _, h1, h2⟩ := hx
    subst e
    exact ⟨_, vs.length, rfl, .inl ⟨vs, .of h1, rfl⟩, q _ fun P => by simp only [Rep]; rw [h2.len]⟩
  · rename_i ns
    obtain ⟨a, rfl, h1⟩ := hx
    subst e
    exact ⟨_, ns.length, rfl, .inl ⟨_, hK ▸ h1.sq, by rw [List.length_map]⟩, q _ fun P => by simp only [Rep]⟩
def eLen : Ev → Ev := eOp1 (rd1 lenD)
theorem v_len (hK : G.K = X.K) (hm : X.mg "len" = none) (ha : PEv X G W ios a ga) (hg : Gl X "len" := by rfl) (hs : starEach [a] X.env = (false, eval a X.env) :: starEach [] X.env := by rfl) : PEv X G W ios (.Call (.Name "len" p) [a] [] pos) (eLen ga) :=
  v_b1 call_len (Rd1.op (rdLen hK)) hm ha hg (hs := hs)
def absD : D → Option D
  | .int i => some (.int (if i < 0 then -i else i))
  | _ => none
def eAbs : Ev → Ev := eOp1 (rd1 absD)
theorem v_abs (hm : X.mg "abs" = none) (ha : PEv X G W ios a ga) (hg : Gl X "abs" := by rfl) (hs : starEach [a] X.env = (false, eval a X.env) :: starEach [] X.env := by rfl) : PEv X G W ios (.Call (.Name "abs" p) [a] [] pos) (eAbs ga) :=
  v_b1 call_abs (Rd1.op (by
    intro H x dx d Q hx e q
    cases dx <;> simp only [absD, Option.some.injEq, reduceCtorEq] at e
    subst e
    simp only [Rep] at hx
    subst hx
    exact ⟨_, rfl, q _ fun P => by simp only [Rep]⟩)) hm ha hg (hs := hs)
def eMax2 : Ev → Ev → Ev := eOp2 (rd2 (dI2 fun i j => some (if j > i then j else i)))
def eMin2 : Ev → Ev → Ev := eOp2 (rd2 (dI2 fun i j => some (if j < i then j else i)))
theorem v_max2 (hc : X.calm = true) (hm : X.mg "max" = none) (ha : PEv X G W ios a ga) (hb : PEv X G W ios b gb) (hg : Gl X "max" := by rfl) (hs : starEach [a, b] X.env = (false, eval a X.env) :: starEach [b] X.env := by rfl) (hs2 : starEach [b] X.env = (false, eval b X.env) :: starEach [] X.env := by rfl)
    (hpl : (backTo pos (starEach [b] X.env)).any (·.1) = false := by rfl) : PEv X G W ios (.Call (.Name "max" p) [a, b] [] pos) (eMax2 ga gb) :=
  v_b2 (call_max2 hc) (Rd2.op (by
    intro H x y dx dy d Q hx hy e q
    cases dx <;> cases dy <;> simp only [dI2, Option.map_some, Option.some.injEq, reduceCtorEq] at e
    subst e
    simp only [Rep] at hx hy
    subst hx; subst hy
    exact ⟨_, _, rfl, q _ fun P => by simp only [Rep]⟩)) hm ha hb hg (hs := hs) (hs2 := hs2) (hpl := hpl)
theorem v_min2 (hc : X.calm = true) (hm : X.mg "min" = none) (ha : PEv X G W ios a ga) (hb : PEv X G W ios b gb) (hg : Gl X "min" := by rfl) (hs : starEach [a, b] X.env = (false, eval a X.env) :: starEach [b] X.env := by rfl) (hs2 : starEach [b] X.env = (false, eval b X.env) :: starEach [] X.env := by rfl)
    (hpl : (backTo pos (starEach [b] X.env)).any (·.1) = false := by rfl) : PEv X G W ios (.Call (.Name "min" p) [a, b] [] pos) (eMin2 ga gb) :=
  v_b2 (call_min2 hc) (Rd2.op (by
    intro H x y dx dy d Q hx hy e q
    cases dx <;> cases dy <;> simp only [dI2, Option.map_some, Option.some.injEq, reduceCtorEq] at e
    subst e
    simp only [Rep] at hx hy
    subst hx; subst hy
    exact ⟨_, _, rfl, q _ fun P => by simp only [Rep]⟩)) hm ha hb hg (hs := hs) (hs2 := hs2) (hpl := hpl)
/-- all of them ints -/
def intsD : List D → Option (List Int)
  | [] => some []
  | .int i :: ds => (intsD ds).map (i :: ·)
  | _ => none
theorem intsD_map : ∀ ns : List Int, intsD (ns.map .int) = some ns
  | [] => rfl
  | n :: ns => by simp [intsD, intsD_map ns]
theorem intsD_eq : ∀ {ds : List D} {ns : List Int}, intsD ds = some ns → ds = ns.map .int
  | [], ns, e => by simp only [intsD, Option.some.injEq] at e; subst e; rfl
  | d :: ds, ns, e => by
    cases d <;> simp only [intsD, reduceCtorEq, Option.map_eq_some_iff] at e
    obtain ⟨ms, e, rfl⟩ := e
    rw [intsD_eq e]
    rfl
theorem reps_ints {H : Hp} {P : Addr → Prop} : ∀ {ns : List Int} {vs : List V}, Reps G H P (ns.map .int) vs → vs = ns.map V.int
  | [], vs, h => by simpa [Reps] using h
  | n :: ns, vs, h => by
    simp only [List.map_cons, Reps, Rep] at h
    obtain ⟨v, r, rfl, rfl, h⟩ := h
    rw [reps_ints h]
    rfl
/-- a function on a list of ints -/
def dL1 (f : List Int → Option Int) : D → Option D
  | .lst xs => (intsD xs).bind fun ns => (f ns).map .int
  | _ => none
def eSum : Ev → Ev := eOp1 (rd1 (dL1 fun ns => some ns.sum))
def eMax1 : Ev → Ev := eOp1 (rd1 (dL1 fun ns => ns.max?))
def eMin1 : Ev → Ev := eOp1 (rd1 (dL1 fun ns => ns.min?))
/-- list(xs), tuple(xs) -/
def opList (t : Tm) : Option Tm := match t with
  | .v k (.lst xs) => (elk k xs).map fun xs => .v .O (.lst xs)
  | .v k (.tup xs) => (elk k xs).map fun xs => .v .O (.lst xs)
  | _ => none
def opTuple (t : Tm) : Option Tm := match t with
  | .v k (.lst xs) => (elk k xs).map fun xs => .v .F (.tup xs)
  | .v k (.tup xs) => (elk k xs).map fun xs => .v .F (.tup xs)
  | _ => none
def eList : Ev → Ev := eOp1 opList
def eTuple : Ev → Ev := eOp1 opTuple
theorem v_tuple (hm : X.mg "tuple" = none) (ha : PEv X G W ios a ga) (hg : Gl X "tuple" := by rfl) (hs : starEach [a] X.env = (false, eval a X.env) :: starEach [] X.env := by rfl) : PEv X G W ios (.Call (.Name "tuple" p) [a] [] pos) (eTuple ga) :=
  v_ty1 call_tuple_of (by
    intro pr io σ s x tx t ox Q hr hx e q
    cases tx <;> simp only [opTuple, reduceCtorEq] at e
    rename_i k d
    cases d <;> simp only [reduceCtorEq, Option.map_eq_some_iff] at e <;> obtain ⟨ys, e, rfl⟩ := e
    · obtain ⟨a, vs, rfl, h1, h2⟩ := tup_items hx e
      exact ⟨a, vs, rfl, .inr ⟨.of h1, q.done hr (by simp only [Rep]; exact ⟨a, vs, rfl, h1, h2⟩)⟩⟩
    · obtain ⟨a, vs, rfl, h1, h2⟩ := lst_items hx e
      exact ⟨a, vs, rfl, .inl ⟨.of h1, fun p hp => q.tup hr h2 hp⟩⟩) hm ha hg (hs := hs)
end
end PV

namespace PV
open PySem PySem.Spec L2

/-! ### statements -/
inductive Fl where
  | nx (ρ : Ss) | rt (t : Tm) (ρ : Ss) | bk (ρ : Ss) | ct (ρ : Ss)
  | ex (e : Er) (ρ : Ss)
  | no
abbrev Sm := Ss → Fl
def FlP (G : Gx) (W : WX) (pr : Addr → Prop) (io : List (Nat × V)) (s : Sx) (o : Fl) (D : Ends) : Prop := match o with
  | .nx ρ' => ∀ σ' s', s'.ρ = ρ' → SR G pr io σ' s' → Ext s s' → D.nx σ' s'.H
  | .bk ρ' => ∀ σ' s', s'.ρ = ρ' → SR G pr io σ' s' → Ext s s' → D.bk σ' s'.H
  | .ct ρ' => ∀ σ' s', s'.ρ = ρ' → SR G pr io σ' s' → Ext s s' → D.ct σ' s'.H
  | .rt t ρ' => ∀ v σ' s' ot, s'.ρ = ρ' → SR G pr io σ' s' → Ext s s' → Tp G pr σ' s' t v ot → Frs s ot → D.rt v s'.H
  | .ex e ρ' => ∀ cls d σ' s', s'.ρ = ρ' → SR G pr io σ' s' → Ext s s' → ErR G s'.H s'.fz e cls d → W cls d σ' s'.H
  | .no => False
def tSv (G : Gx) (W : WX) (ios : List Nat) (g : Sm) : TS := fun D σ H => ∃ pr io s, s.H = H ∧ io.map Prod.fst = ios ∧ SR G pr io σ s ∧ FlP G W pr io s (g s.ρ) D
abbrev PSv (X : Cx) (G : Gx) (W : WX) (ios : List Nat) (st : Stmt) (g : Sm) : Prop := PS X st (tSv G W ios g)
abbrev PBv (X : Cx) (G : Gx) (W : WX) (ios : List Nat) (st : List Stmt) (g : Sm) : Prop := PSs X st (tSv G W ios g)
theorem ps_imp {X : Cx} {x : Stmt} {t t' : TS} (h : PS X x t) (i : ∀ D σ H, t' D σ H → t D σ H) : PS X x t' := ⟨fun pins s σ H D I q => h.run pins s σ H D I (i D σ H q)⟩
theorem pss_imp {X : Cx} {x : List Stmt} {t t' : TS} (h : PSs X x t) (i : ∀ D σ H, t' D σ H → t D σ H) : PSs X x t' := ⟨fun pins s σ H D I q => h.run pins s σ H D I (i D σ H q)⟩
def Ou.toF (o : Ou) (k : Tm → Ss → Fl) : Fl := match o with
  | .ok t ρ => k t ρ
  | .ex e ρ => .ex e ρ
  | .no => .no
section
variable {G : Gx} {W : WX} {pr : Addr → Prop} {io : List (Nat × V)} {σ : L2.St} {s s1 : Sx} {ios : List Nat} {D : Ends} {X : Cx} {a b c : Expr} {pos p : Pos} {ga gb gc : Ev} {st : Stmt} {rest : List Stmt} {g1 g2 : Sm}
theorem of_tSv {H : Hp} {g : Sm} (h : tSv G W ios g D σ H) : ∃ pr io s, s.H = H ∧ io.map Prod.fst = ios ∧ SR G pr io σ s ∧ FlP G W pr io s (g s.ρ) D := h
theorem tSv_of {g : Sm} (hi : io.map Prod.fst = ios) (r : SR G pr io σ s) (h : FlP G W pr io s (g s.ρ) D) : tSv G W ios g D σ s.H := ⟨pr, io, s, rfl, hi, r, h⟩
theorem FlP.later {o : Fl} (h : FlP G W pr io s o D) (e : Ext s s1) : FlP G W pr io s1 o D := by
  cases o with
  | nx ρ' => exact fun σ' s' h1 h2 h3 => h σ' s' h1 h2 (e.trans h3)
  | bk ρ' => exact fun σ' s' h1 h2 h3 => h σ' s' h1 h2 (e.trans h3)
  | ct ρ' => exact fun σ' s' h1 h2 h3 => h σ' s' h1 h2 (e.trans h3)
  | rt t ρ' => exact fun v σ' s' ot h1 h2 h3 h4 h5 => h v σ' s' ot h1 h2 (e.trans h3) h4 (h5.on e)
  | ex e' ρ' => exact fun cls d σ' s' h1 h2 h3 h4 => h cls d σ' s' h1 h2 (e.trans h3) h4
  | no => exact h
/-- an expression first -/
theorem FlP.toF {o : Ou} {k : Tm → Ss → Fl} (h : FlP G W pr io s (o.toF k) D) {R : VK}
    (hk : ∀ t v s1 ot, SR G pr io σ s1 → Ext s s1 → Tp G pr σ s1 t v ot → Frs s ot → FlP G W pr io s (k t s1.ρ) D → R v s1.H) : OuP G W pr io σ s o R := by
  cases o with
  | ok t ρ' =>
    intro v s1 ot e1 r1 x1 p1 f1
    subst e1
    exact hk t v s1 ot r1 x1 p1 f1 h
  | ex e ρ' => exact fun cls d s' h1 h2 h3 h4 => h cls d σ s' h1 h2 h3 h4
  | no => exact h
def sNil : Sm := fun ρ => .nx ρ
def sSeq (g1 g2 : Sm) : Sm := fun ρ => match g1 ρ with
  | .nx ρ1 => g2 ρ1
  | o => o
theorem b_nil : PBv X G W ios [] sNil := pss_imp pss_nil fun D σ H q => by
  obtain ⟨pr, io, s, rfl, hi, r, q⟩ := of_tSv q
  exact q σ s rfl r (Ext.refl s)
theorem FlP.seq {o : Fl} {g2 : Sm} (hi : io.map Prod.fst = ios) (h : FlP G W pr io s (match o with | .nx ρ1 => g2 ρ1 | o => o) D) : FlP G W pr io s o { D with nx := tSv G W ios g2 D } := by
  cases o with
  | nx ρ' => exact fun σ' s' h1 h2 h3 => by subst h1; exact tSv_of hi h2 (FlP.later h h3)
  | bk ρ' => exact h
  | ct ρ' => exact h
  | rt t ρ' => exact h
  | ex e ρ' => exact h
  | no => exact h
theorem b_cons (h1 : PSv X G W ios st g1) (h2 : PBv X G W ios rest g2) : PBv X G W ios (st :: rest) (sSeq g1 g2) := pss_imp (pss_cons h1 h2) fun D σ H q => by
  obtain ⟨pr, io, s, rfl, hi, r, q⟩ := of_tSv q
  exact tSv_of hi r (FlP.seq hi q)
theorem b_one (h1 : PSv X G W ios st g1) : PBv X G W ios [st] g1 := pss_one h1
def sBreak : Sm := fun ρ => .bk ρ
def sCont : Sm := fun ρ => .ct ρ
/-- never reached -/
def sNever : Sm := fun _ => .no
def sExpr (g : Ev) : Sm := fun ρ => (g ρ).toF fun _ ρ1 => .nx ρ1
theorem s_expr (ha : PEv X G W ios a ga) (hs : swapsWith a none pos.line X.env = pure false := by rfl) : PSv X G W ios (.Expr a pos) (sExpr ga) := ps_imp (ps_expr ha hs) fun D σ H q => by
  obtain ⟨pr, io, s, rfl, hi, r, q⟩ := of_tSv q
  exact tEv_of hi r (FlP.toF q fun t v s1 ot r1 x1 p1 f1 q1 => q1 σ s1 rfl r1 x1)
def sRet (g : Ev) : Sm := fun ρ => (g ρ).toF fun t ρ1 => .rt t ρ1
theorem s_ret (ha : PEv X G W ios a ga) : PSv X G W ios (.Return (some a) pos) (sRet ga) := ps_imp (ps_ret ha) fun D σ H q => by
  obtain ⟨pr, io, s, rfl, hi, r, q⟩ := of_tSv q
  exact tEv_of hi r (FlP.toF q fun t v s1 ot r1 x1 p1 f1 q1 => q1 v σ s1 ot rfl r1 x1 p1 f1)
def sRetN : Sm := fun ρ => .rt (.v .F .non) ρ
def sIf (gc : Ev) (g1 g2 : Sm) : Sm := fun ρ => (gc ρ).toF fun t ρ1 => match asB t with
  | some true => g1 ρ1
  | some false => g2 ρ1
  | none => .no
theorem s_if {ba bb : List Stmt} (hc : PTv X G W ios c gc) (ha : PBv X G W ios ba g1) (hb : PBv X G W ios bb g2) : PSv X G W ios (.If c ba bb pos) (sIf gc g1 g2) := ps_imp (ps_if hc ha hb) fun D σ H q => by
  obtain ⟨pr, io, s, rfl, hi, r, q⟩ := of_tSv q
  show tEv G W ios gc σ s.H (fun x H' => ∃ k, x = .bl k ∧ (if k = true then tSv G W ios g1 D σ H' else tSv G W ios g2 D σ H'))
  refine tEv_of hi r (FlP.toF q fun t v s1 ot r1 x1 p1 f1 q1 => ?_)
  cases e : asB t with
  | none => rw [e] at q1; exact q1.elim
  | some k =>
    rw [e] at q1
    refine ⟨k, asB_of p1 e, ?_⟩
    cases k with
    | true => exact iteT (tSv_of hi r1 (FlP.later q1 x1))
    | false => exact iteF (tSv_of hi r1 (FlP.later q1 x1))

/-! ### name = value -/
def isLoc : Tm → Bool
  | .loc _ => true
  | _ => false
theorem notLoc {t : Tm} (h : isLoc t = false) : ∀ i, t ≠ .loc i := fun i z => by subst z; simp [isLoc] at h
def sSet (i : Nat) (g : Ev) : Sm := fun ρ => (g ρ).toF fun t ρ1 => if isLoc t = false ∧ i < ρ1.length then .nx (ρ1.set i (some t)) else .no
/-- a value in flight is stored at a name -/
theorem SR.store (r : SR G pr io σ s1) (x : Ext s s1) {t : Tm} {v : V} {ot : List Addr} (p : Tp G pr σ s1 t v ot) (f : Frs s ot) (hl : isLoc t = false) {i : Nat} (hi : i < s1.ρ.length) (hio : i ∉ io.map Prod.fst) :
    ∃ os', SR G pr io (σ.set i (some v)) { s1 with ρ := s1.ρ.set i (some t), os := os' } ∧ Ext s { s1 with ρ := s1.ρ.set i (some t), os := os' } := by
  obtain ⟨o1, o2, o3, e, h⟩ := Sl.put (tm_of p.rel (notLoc hl)) r.sl hi
  have nd := r.nd
  rw [e, List.nodup_append, List.nodup_append] at nd
  have sep : ∀ a, (a ∈ o1 ∨ a ∈ o3) → a ∈ s1.os := fun a h => by rw [e]; rcases h with h | h <;> simp [h]
  refine ⟨o1 ++ (ot ++ o3), ⟨h, ?_, fun a ha => ?_, r.dom, fun q hq => ?_⟩, ⟨x.keep, x.dom, x.tk, x.fz, x.fzo, fun a ha => ?_⟩⟩
  · show (o1 ++ (ot ++ o3)).Nodup
    rw [List.nodup_append, List.nodup_append]
    refine ⟨nd.1, ⟨p.nd, nd.2.1.2.1, fun a ha b hb z => ?_⟩, fun a ha b hb z => ?_⟩
    · subst z; exact (p.sep a ha).2.2 (sep a (.inr hb))
    · subst z
      rcases List.mem_append.mp hb with hb | hb
      · exact (p.sep a hb).2.2 (sep a (.inl ha))
      · exact nd.2.2 a ha a (List.mem_append_right _ hb) rfl
  · have ha' : a ∈ o1 ∨ a ∈ ot ∨ a ∈ o3 := by simpa using ha
    rcases ha' with h | h | h
    · exact r.sep a (sep a (.inl h))
    · exact ⟨(p.sep a h).1, (p.sep a h).2.1⟩
    · exact r.sep a (sep a (.inr h))
  · have hne : q.1 ≠ i := fun z => hio (by rw [← z]; exact List.mem_map_of_mem hq)
    show (σ.set i (some v))[q.1]? = _
    rw [List.getElem?_set_ne (Ne.symm hne)]
    exact r.iov q hq
  · have ha' : a ∈ o1 ∨ a ∈ ot ∨ a ∈ o3 := by simpa using ha
    rcases ha' with h | h | h
    · exact x.oso a (sep a (.inl h))
    · exact f a h
    · exact x.oso a (sep a (.inr h))
theorem s_set {i : Nat} {x : Str} {pos' : Pos} (hN : X.N.Nodup) (hio : i ∉ ios) (ha : PEv X G W ios a ga) (hi : X.N[i]? = some x := by rfl) (hx : Loc X.env.scope x := by first | exact Or.inl rfl | exact Or.inr rfl)
    (hs : swapsWith a (some (.Name x pos')) pos.line X.env = pure false := by rfl) (hf : X.fn x = true ∨ X.env.scope.names.lookup x = some .local := by first | exact .inl rfl | exact .inr rfl | assumption) :
    PSv X G W ios (.Assign [.Name x pos'] a pos) (sSet i ga) := ps_imp (ps_set hN hi hx ha hs hf) fun D σ H q => by
  obtain ⟨pr, io, s, rfl, hi, r, q⟩ := of_tSv q
  refine tEv_of hi r (FlP.toF q fun t v s1 ot r1 x1 p1 f1 q1 => ?_)
  split at q1
  · rename_i hc
    obtain ⟨os', r2, x2⟩ := r1.store x1 p1 f1 hc.1 hc.2 (by rw [hi]; exact hio)
    exact q1 _ { s1 with ρ := s1.ρ.set i (some t), os := os' } rfl r2 x2
  · exact q1.elim
end
end PV

namespace PV
open PySem PySem.Spec L2 PyProof.Rows

/-! ### defs whose caller shows nothing under way -/
/-- room, and no text of a container is under way -/
structure RoomG (k : Nat) (A : Around) : Prop where
  r : Room k A
  g : A.guards = some []
theorem RoomG.mono {j k : Nat} {A : Around} (h : RoomG k A) (l : j ≤ k) : RoomG j A := ⟨h.r.mono l, h.g⟩
theorem RoomG.deeper {k : Nat} {A : Around} (h : RoomG (k + 1) A) (env : Env) : RoomG k (A.deeper env) := ⟨h.r.deeper env, h.g⟩
theorem RoomG.in1 {k : Nat} {A : Around} (h : RoomG (k + 1) A) : RoomG k A.in1 := ⟨h.r.in1, h.g⟩
theorem RoomG.make {k : Nat} {A : Around} (h : RoomG (k + 1) A) (C : Addr) (us : List Value) (kw : List (Str × Value)) : RoomG k (A.under (.builtin "type.__call__" ⟨.ref C :: us, kw⟩)) := by
  refine ⟨h.r.make C us kw, ?_⟩
  have e : Code.guards (.builtin "type.__call__" ⟨.ref C :: us, kw⟩) = [] := by
    show (if guardIds.contains "type.__call__" = true then _ else []) = []
    rw [if_neg (by decide +kernel)]
  unfold Around.under
  simp [e, h.g, pushGuards]
/-- a def's promise (sp), kept wherever there is such room -/
structure FnG (P : Program) (w : World) (K : PySem.W.Frag) (mg : Str → Option Value) (base : Heap) (k : Nat) (f : Addr) (fd : FuncData) (ps : List Str) (sp : Sp) : Prop where
  len : ∀ vs H Q E, sp vs H Q E → vs.length = ps.length
  go : ∀ (A : Around) (outer : List Env) (s : Shared) (H : Hp) (args : Args) (us : List Value) (vs : List V) (Q : VK) (E : XK), RoomG k A → Env0 P w K mg base A outer s H → BindsTo s fd args (ps.zip us) → Vals vs us → sp vs H Q E →
    codeAny (model P w) A (.call (.ref f) args) (CR (L2N.CX P w) outer P w H s Q E) s
section
variable {P : Program} {w : World} {K : PySem.W.Frag} {mg : Str → Option Value} {base : Heap}
theorem FnG.mono {j k : Nat} {f : Addr} {fd : FuncData} {ps : List Str} {sp : Sp} (F : FnG P w K mg base j f fd ps sp) (h : j ≤ k) : FnG P w K mg base k f fd ps sp := ⟨F.len, fun A outer s H args us vs Q E hr => F.go A outer s H args us vs Q E (hr.mono h)⟩
theorem fnG_of {k : Nat} {f : Addr} {name qual : Str} {params : Arguments} {body : List Stmt} {scope : Scope} {dV kV doc pm cdv ct oc : Value} {an od : Option Addr} {osl : Array (Option Value)} {N ps : List Str} {sp : Sp}
    (lk : K.lookup f = some ⟨oc, od, .func (PySem.W.fnOf name qual params body scope dV kV doc pm an cdv ct), osl⟩) (hcd : PySem.W.codeIn K cdv qual = true) (S : FnScope N ps scope) (len : ∀ vs H Q E, sp vs H Q E → vs.length = ps.length)
    (hbody : ∀ (A : Around) (outer : List Env) (s : Shared) (H : Hp) (vs : List V) (Q : VK) (E : XK), RoomG k (A.deeper (envOfC qual scope s.heap.objs.size f cdv)) → sp vs H Q E →
      ∃ t, PSs (cxOf (L2N.CX P w) P w K mg base N qual scope f cdv A outer s H E) body t ∧ t { nx := fun _ H' => Q .non H', rt := Q } (start N vs) H) :
    FnG P w K mg base (k + 1) f (PySem.W.fnOf name qual params body scope dV kV doc pm an cdv ct) ps sp := by
  constructor
  · exact len
  intro A outer s H args us vs Q E hr e0 hb r hsp
  have kept := e0.mod.kin.keeps fun b o e => (e0.bs b o e).1
  have kind_of : ∀ y ∈ ps.zip us, scope.names.lookup y.1 = some .local ∨ (scope.names.lookup y.1 = some .cell ∧ ((cellsFrom (s.heap.objs.size + 1) scope.names []).lookup y.1).isSome = true) := fun y hy => by
    obtain ⟨n, v⟩ := y
    exact (S.par n (List.of_mem_zip hy).1).imp id fun q => ⟨q, PySem.W.cellsFrom_some _ _ _ (.inl q)⟩
  refine codeAny_call_function hr.r.depth (kept _ _ lk) rfl S.co S.gen rfl (PySem.W.codeRec_of kept hcd) (hb _ _ _ _ (wpAny_newFunctionEnv_cells S.kind kind_of fun env he s1 x => ?_))
  cases he
  refine ⟨(e0.mod.nolimit.keeps fun b o e => (e0.bs b o e).1).keeps x.toInCall.keep, codeAny_func ?_⟩
  obtain ⟨t, ht, hq⟩ := hbody A outer s H vs Q E (hr.deeper _) hsp
  have I := inv_start (CX := L2N.CX P w) (E := E) S hr.r.hd e0 (len _ _ _ _ hsp) r x
  refine wpAny_mono (ht.run [] s1 (start N vs) H _ I hq) (fun fl s' hs => ?_) fun _ _ h => h
  match fl, hs with
  | .ret u, ⟨v, σ', H', J, rv, q⟩ => exact ⟨v, H', J.os, J.bare, J.base, J.hok, rv, q⟩
  | .next, ⟨σ', H', J, q⟩ => exact ⟨.non, H', J.os, J.bare, J.base, J.hok, rfl, q⟩
  | .brk, ⟨_, _, _, q⟩ => exact q.elim
  | .cont, ⟨_, _, _, q⟩ => exact q.elim
end
section
variable {X : Cx} {k : Nat} {f : Addr} {fd : FuncData} {ps : List Str} {sp : Sp} {E : L2.St → XK} {x : Str} {p pos : Pos} {e : Expr} {es : List Expr} {t : TA}
theorem run_G {pins : List (Addr × Obj)} {σ : L2.St} {H : Hp} {s : Shared} {Q : VK} {us : List Value} {vs : List V} (F : FnG X.prog X.w X.K X.mg X.base k f fd ps sp) (hr : RoomG k X.A) (hb : Binds X.K fd ps []) (hx : PassesAt (L2N.CX X.prog X.w) X σ (E σ))
    (I : Inv X pins σ H s) (r : Vals vs us) (h : sp vs H Q (E σ)) : wpAny (model X.prog X.w) X.A (call (.ref f) us) (EP X pins σ Q) X.xe s := by
  have b := hb s us I.kIn (by rw [List.append_nil, ← r.length]; exact F.len _ _ _ _ h)
  rw [List.append_nil] at b
  refine wpAny_call (codeAny_mono (F.go X.A X.stack s H ⟨us, []⟩ us vs Q (E σ) hr I.env0 b r h) fun w s' hw => ?_)
  match w, hw with
  | .error e, hw => exact hx pins H s e s' I hw
  | .ok (.ret u), hw => exact I.after hw
  | .ok .next, hw => exact hw.elim
  | .ok .brk, hw => exact hw.elim
  | .ok .cont, hw => exact hw.elim
def tCallG (sp : Sp) (E : L2.St → XK) (t : TA) : TE := fun σ H Q => t σ H fun vs H1 => sp vs H1 Q (E σ)
theorem pe_callG (F : FnG X.prog X.w X.K X.mg X.base k f fd ps sp) (hr : RoomG k X.A) (hg : Gl X x) (hm : X.mg x = some (.ref f)) (hk : PySem.W.keepIn X.K (.ref f) = true) (hb : Binds X.K fd ps []) (hx : ∀ σ, PassesAt (L2N.CX X.prog X.w) X σ (E σ))
    (ha : PA X (e :: es) t) (hdb : (x == ("__debug__" : Str)) = false) (he : starEach (e :: es) X.env = (false, eval e X.env) :: starEach es X.env) (hpl : (backTo pos (starEach es X.env)).any (·.1) = false) :
    PE X (.Call (.Name x p) (e :: es) [] pos) (tCallG sp E t) :=
  ⟨fun pins s σ H Q I h => wpAny_Call_Name_kw (ld_glob I hg hm (PySem.W.callWith_K (h₀ := X.base) I.ok.mod.kin hk (thn (ha.run pos pins s σ H _ I h) fun us s1 h1 => by
    obtain ⟨vs, H1, I1, r, q⟩ := h1
    exact ⟨I1.kIn, run_G F hr hb (hx σ) I1 r q⟩) he hpl) hdb)⟩
/-- a property -/
def tPropG (C : Addr) (sp : Sp) (ta : TE) : TE := fun σ H Q => ta σ H fun x H1 => ∃ a dx fs, x = .ref a ∧ H1 a = some (.ins C dx fs) ∧ sp [.ref a] H1 Q fun _ _ _ => False
end
end PV

namespace PV
open PySem PySem.Spec L2

/-! ### defs and their calls -/
/-- how an argument is handed: lent, shared for good, to be changed and given back -/
inductive Md where
  | b | f | io
  deriving DecidableEq
inductive Fo where
  | ok (t : Tm) (us : List Tm)
  | ex (e : Er) (us : List Tm)
  | no
abbrev Fn := List Tm → Fo
mutual
/-- nothing lent in it -/
def unB : Tm → Option Tm
  | .v .B d => if flat d = true then some (.v .F d) else none
  | .v k d => some (.v k d)
  | .tp ts => (unBs ts).map .tp
  | .ls ts => (unBs ts).map .ls
  | .ob c ts => (unBs ts).map (.ob c)
  | .loc _ => none
def unBs : List Tm → Option (List Tm)
  | [] => some []
  | t :: ts => match unB t, unBs ts with
    | some d, some ds => some (d :: ds)
    | _, _ => none
end
def getIo (ρ : Ss) : List Nat → Option (List Tm)
  | [] => some []
  | i :: is => match ρ[i]? with
    | some (some t) => match unB t, getIo (ρ.set i none) is with
      | some u, some us => some (u :: us)
      | _, _ => none
    | _ => none
/-- a def by its body: n names, the parameters to be given back -/
def defn (n : Nat) (ios : List Nat) (body : Sm) : Fn := fun ts => match body (ts.map some ++ List.replicate (n - ts.length) none) with
  | .nx ρ => match getIo ρ ios with
    | some us => .ok (.v .F .non) us
    | none => .no
  | .rt t ρ => match unB t, getIo ρ ios with
    | some t, some us => .ok t us
    | _, _ => .no
  | .ex e ρ => match getIo ρ ios with
    | some us => .ex e us
    | none => .no
  | _ => .no
mutual
theorem TmR.unB {G : Gx} {H : Hp} {fz pr pr' : Addr → Prop} : ∀ (t : Tm) (v : V) (os : List Addr) (u : Tm), TmR G H fz pr t v os → PV.unB t = some u → TmR G H fz pr' u v os
  | .v .F d, v, os, u, h, e => by simp only [TmR] at h; simp only [PV.unB, Option.some.injEq] at e; subst e; simp only [TmR]; exact h
  | .v .B d, v, os, u, h, e => by
    simp only [TmR] at h; simp only [PV.unB] at e
    by_cases f : PV.flat d = true
    · rw [if_pos f] at e; cases e; simp only [TmR]; exact ⟨h.1, Rep.flat _ _ f h.2⟩
    · rw [if_neg f] at e; cases e
  | .v .O d, v, os, u, h, e => by simp only [TmR] at h; simp only [PV.unB, Option.some.injEq] at e; subst e; simp only [TmR]; exact h
  | .tp ts, v, os, u, h, e => by
    simp only [TmR] at h; simp only [PV.unB, Option.map_eq_some_iff] at e
    obtain ⟨ds, e1, rfl⟩ := e
    obtain ⟨a, vs, ev, h1, h2⟩ := h
    simp only [TmR]
    exact ⟨a, vs, ev, h1, TmRs.unB ts vs os ds h2 e1⟩
  | .ls ts, v, os, u, h, e => by
    simp only [TmR] at h; simp only [PV.unB, Option.map_eq_some_iff] at e
    obtain ⟨ds, e1, rfl⟩ := e
    obtain ⟨a, vs, o, ev, eo, h1, h2⟩ := h
    simp only [TmR]
    exact ⟨a, vs, o, ev, eo, h1, TmRs.unB ts vs o ds h2 e1⟩
  | .ob c ts, v, os, u, h, e => by
    simp only [TmR] at h; simp only [PV.unB, Option.map_eq_some_iff] at e
    obtain ⟨ds, e1, rfl⟩ := e
    obtain ⟨a, dx, vs, o, ev, eo, h1, hl, h2⟩ := h
    simp only [TmR]
    exact ⟨a, dx, vs, o, ev, eo, h1, hl, TmRs.unB ts vs o ds h2 e1⟩
  | .loc i, v, os, u, h, e => by simp only [TmR] at h
theorem TmRs.unB {G : Gx} {H : Hp} {fz pr pr' : Addr → Prop} : ∀ (ts : List Tm) (vs : List V) (os : List Addr) (us : List Tm), TmRs G H fz pr ts vs os → PV.unBs ts = some us → TmRs G H fz pr' us vs os
  | [], vs, os, us, h, e => by simp only [TmRs] at h; simp only [PV.unBs, Option.some.injEq] at e; subst e; simp only [TmRs]; exact h
  | t :: ts, vs, os, us, h, e => by
    simp only [TmRs] at h; simp only [PV.unBs] at e
    obtain ⟨v, r, o1, o2, rfl, rfl, h1, h2⟩ := h
    cases e1 : PV.unB t with
    | none => rw [e1] at e; cases e
    | some d =>
      cases e2 : PV.unBs ts with
      | none => rw [e1, e2] at e; cases e
      | some ds' =>
        rw [e1, e2] at e
        cases e
        simp only [TmRs]
        exact ⟨v, r, o1, o2, rfl, rfl, TmR.unB t v o1 d h1 e1, TmRs.unB ts r o2 ds' h2 e2⟩
end

/-- what is asked of a call's outcome: the parameters to be given back at vo -/
def FoP (G : Gx) (pr : Addr → Prop) (vo : List V) (s : Sx) (o : Fo) (Q : VK) (E : XK) : Prop := match o with
  | .ok t us => ∀ v s' oio ot, Ext s s' → (∀ a, (s'.fz a ∨ pr a) → s'.H a ≠ none) → TmRs G s'.H s'.fz (fun _ => False) us vo oio → TmR G s'.H s'.fz (fun _ => False) t v ot → (oio ++ ot).Nodup → (∀ a ∈ oio ++ ot, ¬ s'.fz a ∧ ¬ pr a ∧ (a ∈ s.os ∨ s.H a = none)) → Q v s'.H
  | .ex e us => ∀ cls d s' oio, Ext s s' → (∀ a, (s'.fz a ∨ pr a) → s'.H a ≠ none) → TmRs G s'.H s'.fz (fun _ => False) us vo oio → ErR G s'.H s'.fz e cls d → oio.Nodup → (∀ a ∈ oio, ¬ s'.fz a ∧ ¬ pr a ∧ (a ∈ s.os ∨ s.H a = none)) → E cls d s'.H
  | .no => False
/-- a def's promise by value -/
def spV (G : Gx) (n : Nat) (ios : List Nat) (f : Fn) : Sp := fun vs H Q E => vs.length = n ∧ ∃ pr io s ts, s.H = H ∧ io.map Prod.fst = ios ∧ s.ρ = ts.map some ∧ SR G pr io (vs.map some) s ∧ FoP G pr (io.map Prod.snd) s (f ts) Q E

section
variable {G : Gx} {W : WX} {pr : Addr → Prop} {io : List (Nat × V)} {σ : L2.St} {s s1 : Sx} {ios : List Nat} {Q : VK} {X : Cx}
theorem Sl.pad {H : Hp} {fz : Addr → Prop} : ∀ {ts : List Tm} {vs : List V} {os : List Addr} (n : Nat), Sl G H fz pr (ts.map some) (vs.map some) os → Sl G H fz pr (ts.map some ++ List.replicate n none) (vs.map some ++ List.replicate n none) os
  | [], vs, os, n, h => by
    simp only [List.map_nil, Sl] at h
    obtain ⟨h1, rfl⟩ := h
    have : vs = [] := by simpa using h1
    subst this
    simp only [List.map_nil, List.nil_append]
    induction n with
    | zero => simp [Sl]
    | succ n ih => rw [List.replicate_succ, List.replicate_succ]; simp only [Sl]; exact ⟨_, _, rfl, ih⟩
  | t :: ts, vs, os, n, h => by
    simp only [List.map_cons, Sl] at h
    obtain ⟨v, r, o1, o2, e, rfl, h1, h2⟩ := h
    cases vs with
    | nil => simp at e
    | cons w ws =>
      simp only [List.map_cons, List.cons.injEq, Option.some.injEq] at e
      obtain ⟨rfl, rfl⟩ := e
      simp only [List.map_cons, List.cons_append, Sl]
      exact ⟨_, _, o1, o2, rfl, rfl, h1, Sl.pad n h2⟩
/-- what is given back, taken out of the slots -/
theorem Sl.getIo {H : Hp} {fz : Addr → Prop} : ∀ {io : List (Nat × V)} {ρ : Ss} {os : List Addr} {us : List Tm}, Sl G H fz pr ρ σ os → os.Nodup → (∀ p ∈ io, σ[p.1]? = some (some p.2)) → PV.getIo ρ (io.map Prod.fst) = some us →
    ∃ oio, TmRs G H fz (fun _ => False) us (io.map Prod.snd) oio ∧ oio.Nodup ∧ ∀ a ∈ oio, a ∈ os
  | [], ρ, os, us, h, nd, hv, e => by
    simp only [List.map_nil, PV.getIo, Option.some.injEq] at e
    subst e
    exact ⟨[], by simp [TmRs], .nil, fun a ha => by cases ha⟩
  | (i, w) :: io, ρ, os, us, h, nd, hv, e => by
    simp only [List.map_cons, PV.getIo] at e
    split at e
    · rename_i t et
      split at e
      · rename_i u us' e1 e2
        cases e
        obtain ⟨v, o1, o2, o3, e3, e4, h1, h2⟩ := Sl.drop h et
        have hw := hv (i, w) List.mem_cons_self
        rw [e3] at hw
        cases hw
        rw [e4, List.nodup_append, List.nodup_append] at nd
        have nd2 : (o1 ++ o3).Nodup := by
          rw [List.nodup_append]
          exact ⟨nd.1, nd.2.1.2.1, fun a ha b hb => nd.2.2 a ha b (List.mem_append_right _ hb)⟩
        obtain ⟨oio, k1, k2, k3⟩ := Sl.getIo h2 nd2 (fun p hp => hv p (List.mem_cons_of_mem _ hp)) e2
        refine ⟨o2 ++ oio, ?_, ?_, fun a ha => ?_⟩
        · simp only [List.map_cons, TmRs]
          exact ⟨w, _, o2, oio, rfl, rfl, TmR.unB _ _ _ _ h1 e1, k1⟩
        · rw [List.nodup_append]
          refine ⟨nd.2.1.1, k2, fun a ha b hb z => ?_⟩
          subst z
          rcases List.mem_append.mp (k3 a hb) with hb | hb
          · exact nd.2.2 a hb a (List.mem_append_left _ ha) rfl
          · exact nd.2.1.2.2 a ha a hb rfl
        · rw [e4]
          rcases List.mem_append.mp ha with ha | ha
          · simp [ha]
          · rcases List.mem_append.mp (k3 a ha) with hb | hb <;> simp [hb]
      · cases e
    · cases e
/-- a def as it stands behind the top -/
def FunX (K : PySem.W.Frag) (x qual : Str) (st : Stmt) (f : Addr) (fd : FuncData) : Prop := ∃ (oc : Value) (od : Option Addr) (dV kV doc pm : Value) (an : Option Addr) (cdv ct : Value) (osl : Array (Option Value)),
  fd = PySem.W.fnOf x qual (defArgs st) (defBody st) (defScope st) dV kV doc pm an cdv ct ∧ K.lookup f = some ⟨oc, od, .func fd, osl⟩ ∧ PySem.W.codeIn K cdv qual = true
theorem FunX.of {K : PySem.W.Frag} {x qual : Str} {st : Stmt} {f : Addr} {fd : FuncData} (F : Fun K x qual st f fd) : FunX K x qual st f fd := by
  obtain ⟨oc, od, kV, doc, pm, an, cdv, ct, osl, h⟩ := F.ex
  exact ⟨oc, od, .none, kV, doc, pm, an, cdv, ct, osl, h⟩
/-- where a def's body runs -/
structure Rm (X : Cx) (W : WX) (k : Nat) : Prop where
  rm : RoomG k X.A
  tk : L2N.Takes X W
  po : PassesOwn (model X.prog X.w) X.A X.env X.xe
  stk : X.stack = X.env :: X.outer
  frm : X.env.frame = some X.env.locals
/-- THE RULE: a def by its body -/
theorem fn_v {P : Program} {w : World} {K : PySem.W.Frag} {mg : Str → Option Value} {base : Heap} {x qual : Str} {st : Stmt} {f : Addr} {fd : FuncData} {N ps : List Str} {k : Nat} {body : Sm} (F : FunX K x qual st f fd) (S : FnScope N ps (defScope st))
    (hps : ps.length ≤ N.length) (ios : List Nat)
    (hb : ∀ (cdv : Value) (A : Around) (outer : List Env) (s0 : Shared) (H : Hp) (E : XK), Rm (cxOf (L2N.CX P w) P w K mg base N qual (defScope st) f cdv A outer s0 H E) (fun cls d _ H => E cls d H) k →
      PBv (cxOf (L2N.CX P w) P w K mg base N qual (defScope st) f cdv A outer s0 H E) G (fun cls d _ H => E cls d H) ios (defBody st) body) :
    FnG P w K mg base (k + 1) f fd ps (spV G ps.length ios (defn N.length ios body)) := by
  obtain ⟨oc, od, dV, kV, doc, pm, an, cdv, ct, osl, rfl, lk, hcd⟩ := F
  refine fnG_of lk hcd S (fun vs H Q E h => h.1) (fun A outer s0 H vs Q E hr h => ?_)
  obtain ⟨hl, pr, io, s, ts, rfl, hi, eρ, r, q⟩ := h
  refine ⟨tSv G (fun cls d _ H => E cls d H) ios body, ?_, ?_⟩
  · exact hb _ _ _ _ _ _ ⟨hr, L2N.takes_of rfl rfl rfl rfl, passes_of rfl, rfl, rfl⟩
  · have hlen : ts.length = vs.length := by have := Sl.len r.sl; rw [eρ] at this; simpa using this
    have hst : L2.start N vs = vs.map some ++ List.replicate (N.length - ts.length) none := by unfold L2.start; rw [hlen]
    have sl : Sl G s.H s.fz pr (ts.map some ++ List.replicate (N.length - ts.length) none) (L2.start N vs) s.os := by
      rw [hst]
      have := r.sl
      rw [eρ] at this
      exact this.pad _
    have r' : SR G pr io (L2.start N vs) { s with ρ := ts.map some ++ List.replicate (N.length - ts.length) none } := by
      refine ⟨sl, r.nd, r.sep, r.dom, fun p hp => ?_⟩
      have h := r.iov p hp
      rw [hst, List.getElem?_append_left (by
        have := (List.getElem?_eq_some_iff.mp h).1
        exact this)]
      exact h
    refine tSv_of (s := { s with ρ := ts.map some ++ List.replicate (N.length - ts.length) none }) hi r' ?_
    have xt : ∀ {s' : Sx}, Ext { s with ρ := ts.map some ++ List.replicate (N.length - ts.length) none } s' → Ext s s' := fun e => ⟨e.keep, e.dom, e.tk, e.fz, e.fzo, e.oso⟩
    unfold defn at q
    have fin : ∀ {t : Tm} {u : Tm} {us : List Tm} {ρ' : Ss}, unB t = some u → getIo ρ' ios = some us → FoP G pr (io.map Prod.snd) s (.ok u us) Q E → ∀ v σ' s' ot, s'.ρ = ρ' → SR G pr io σ' s' → Ext { s with ρ := ts.map some ++ List.replicate (N.length - ts.length) none } s' →
        Tp G pr σ' s' t v ot → Frs { s with ρ := ts.map some ++ List.replicate (N.length - ts.length) none } ot → Q v s'.H := by
      intro t u us ρ' hu hg q v σ' s' ot e1 r1 x1 p1 f1
      subst e1
      rw [← hi] at hg
      obtain ⟨oio, k1, k2, k3⟩ := Sl.getIo r1.sl r1.nd r1.iov hg
      have hlc : ∀ i, t ≠ .loc i := fun i z => by subst z; simp [unB] at hu
      refine q v s' oio ot (xt x1) r1.dom k1 (TmR.unB _ _ _ _ (tm_of p1.rel hlc) hu) ?_ fun a ha => ?_
      · rw [List.nodup_append]
        exact ⟨k2, p1.nd, fun a ha b hb z => by subst z; exact (p1.sep a hb).2.2 (k3 a ha)⟩
      · rcases List.mem_append.mp ha with ha | ha
        · exact ⟨(r1.sep a (k3 a ha)).1, (r1.sep a (k3 a ha)).2, x1.oso a (k3 a ha)⟩
        · exact ⟨(p1.sep a ha).1, (p1.sep a ha).2.1, f1 a ha⟩
    show FlP G _ pr io _ (body (ts.map some ++ List.replicate (N.length - ts.length) none)) _
    cases eb : body (ts.map some ++ List.replicate (N.length - ts.length) none) with
    | nx ρ' =>
      rw [eb] at q
      simp only at q
      cases eg : getIo ρ' ios with
      | none => rw [eg] at q; exact q.elim
      | some us =>
        rw [eg] at q
        exact fun σ' s' e1 r1 x1 => fin (t := .v .F .non) (by simp [unB]) eg q .non σ' s' [] e1 r1 x1 ⟨by simp only [TmT, TmR, Rep]; exact ⟨trivial, trivial⟩, .nil, fun a ha => by cases ha⟩ Frs.nil
    | rt t ρ' =>
      rw [eb] at q
      simp only at q
      cases eu : unB t with
      | none => rw [eu] at q; exact q.elim
      | some u =>
        cases eg : getIo ρ' ios with
        | none => rw [eu, eg] at q; exact q.elim
        | some us =>
          rw [eu, eg] at q
          exact fun v σ' s' ot e1 r1 x1 p1 f1 => fin eu eg q v σ' s' ot e1 r1 x1 p1 f1
    | ex e ρ' =>
      rw [eb] at q
      simp only at q
      cases eg : getIo ρ' ios with
      | none => rw [eg] at q; exact q.elim
      | some us =>
        rw [eg] at q
        intro cls d σ' s' e1 r1 x1 k
        subst e1
        rw [← hi] at eg
        obtain ⟨oio, k1, k2, k3⟩ := Sl.getIo r1.sl r1.nd r1.iov eg
        exact q cls d s' oio (xt x1) r1.dom k1 k k2 fun a ha => ⟨(r1.sep a (k3 a ha)).1, (r1.sep a (k3 a ha)).2, x1.oso a (k3 a ha)⟩
    | bk ρ' => rw [eb] at q; exact q.elim
    | ct ρ' => rw [eb] at q; exact q.elim
    | no => rw [eb] at q; exact q.elim
end
end PV

namespace PV
open PySem PySem.Spec L2

/-! ### calls of defs -/
def pullT : List Tm → List Md → Ss → Option (List Tm × Ss)
  | t :: ts, .io :: ms, ρ => match t with
    | .loc i => match ρ[i]? with
      | some (some u) => match pullT ts ms (ρ.set i none) with
        | some (us, ρ') => some (u :: us, ρ')
        | none => none
      | _ => none
    | t => match pullT ts ms ρ with
      | some (us, ρ') => some (t :: us, ρ')
      | none => none
  | _ :: ts, .b :: ms, ρ => pullT ts ms ρ
  | _ :: ts, .f :: ms, ρ => pullT ts ms ρ
  | [], [], ρ => some ([], ρ)
  | _, _, _ => none
def paramsT : List Tm → List Md → List Tm → Ss → Option (List Tm)
  | _ :: ts, .io :: ms, u :: us, ρ => (paramsT ts ms us ρ).map (u :: ·)
  | t :: ts, .b :: ms, us, ρ => match derT ρ t, paramsT ts ms us ρ with
    | some x, some ps => some (.v .B (toD x) :: ps)
    | _, _ => none
  | t :: ts, .f :: ms, us, ρ => match t, paramsT ts ms us ρ with
    | .v .F d, some ps => some (.v .F d :: ps)
    | .v .B d, some ps => if flat d = true then some (.v .F d :: ps) else none
    | _, _ => none
  | [], [], [], _ => some []
  | _, _, _, _ => none
def putT : List Tm → List Md → List Tm → Ss → Option Ss
  | t :: ts, .io :: ms, u :: us, ρ => match t with
    | .loc i => if i < ρ.length then putT ts ms us (ρ.set i (some u)) else none
    | _ => putT ts ms us ρ
  | _ :: ts, .b :: ms, us, ρ => putT ts ms us ρ
  | _ :: ts, .f :: ms, us, ρ => putT ts ms us ρ
  | [], [], [], ρ => some ρ
  | _, _, _, _ => none
def callF (f : Fn) (ms : List Md) (ts : List Tm) (ρ1 : Ss) : Ou := match pullT ts ms ρ1 with
  | some (us, ρ2) => match paramsT ts ms us ρ2 with
    | some ps => match f ps with
      | .ok t us' => match putT ts ms us' ρ2 with
        | some ρ3 => .ok t ρ3
        | none => .no
      | .ex e us' => match putT ts ms us' ρ2 with
        | some ρ3 => .ex e ρ3
        | none => .no
      | .no => .no
    | none => .no
  | none => .no
def eCall (f : Fn) (ms : List Md) (gs : Ss → OuL) : Ev := fun ρ => (gs ρ).bind (callF f ms)
def ioV : List Md → List V → List V
  | .io :: ms, v :: vs => v :: ioV ms vs
  | _ :: ms, _ :: vs => ioV ms vs
  | _, _ => []
section
variable {G : Gx} {W : WX} {pr : Addr → Prop} {io : List (Nat × V)} {σ : L2.St} {s s1 : Sx} {ios : List Nat} {Q : VK} {X : Cx}
/-- the arguments that are not given back -/
def TmTb (G : Gx) (pr : Addr → Prop) (σ : L2.St) (s : Sx) : List Tm → List Md → List V → List Addr → Prop
  | _ :: ts, .io :: ms, _ :: vs, o => TmTb G pr σ s ts ms vs o
  | t :: ts, .b :: ms, v :: vs, o => ∃ o1 o2, o = o1 ++ o2 ∧ TmT G pr σ s t v o1 ∧ TmTb G pr σ s ts ms vs o2
  | t :: ts, .f :: ms, v :: vs, o => ∃ o1 o2, o = o1 ++ o2 ∧ TmT G pr σ s t v o1 ∧ TmTb G pr σ s ts ms vs o2
  | [], [], [], o => o = []
  | _, _, _, _ => False
theorem pull_ok : ∀ {ts : List Tm} {ms : List Md} {ρ ρ2 : Ss} {us : List Tm} {vs : List V} {os ot : List Addr}, Sl G s.H s.fz pr ρ σ os → TmTs G pr σ s ts vs ot → (os ++ ot).Nodup → pullT ts ms ρ = some (us, ρ2) →
    ∃ os2 oio otb, Sl G s.H s.fz pr ρ2 σ os2 ∧ TmRs G s.H s.fz pr us (ioV ms vs) oio ∧ TmTb G pr σ s ts ms vs otb ∧ (os2 ++ (oio ++ otb)).Nodup ∧ (∀ a ∈ os2, a ∈ os) ∧ (∀ a ∈ oio, a ∈ os ∨ a ∈ ot) ∧ ∀ a ∈ otb, a ∈ ot
  | [], [], ρ, ρ2, us, vs, os, ot, h, ht, nd, e => by
    simp only [pullT, Option.some.injEq, Prod.mk.injEq] at e
    obtain ⟨rfl, rfl⟩ := e
    obtain ⟨rfl, rfl⟩ := ht
    exact ⟨os, [], [], h, by simp [TmRs, ioV], by simp [TmTb], by simpa using nd, fun a ha => ha, (fun a ha => by simp at ha), (fun a ha => by simp at ha)⟩
  | [], m :: ms, ρ, ρ2, us, vs, os, ot, h, ht, nd, e => by cases m <;> simp [pullT] at e
  | t :: ts, [], ρ, ρ2, us, vs, os, ot, h, ht, nd, e => by simp [pullT] at e
  | t :: ts, .b :: ms, ρ, ρ2, us, vs, os, ot, h, ht, nd, e => by
    obtain ⟨v, r, o1, o2, rfl, rfl, h1, h2⟩ := ht
    simp only [pullT] at e
    have nd' : (os ++ o2).Nodup := by simp only [List.nodup_append, List.mem_append] at nd ⊢; grind
    obtain ⟨os2, oio, otb, k1, k2, k3, k4, k5, k6, k7⟩ := pull_ok h h2 nd' e
    refine ⟨os2, oio, o1 ++ otb, k1, k2, ⟨o1, otb, rfl, h1, k3⟩, ?_, k5, fun a ha => (k6 a ha).imp id fun z => List.mem_append_right _ z, fun a ha => ?_⟩
    · simp only [List.nodup_append, List.mem_append] at nd k4 ⊢; grind
    · rcases List.mem_append.mp ha with ha | ha
      · exact List.mem_append_left _ ha
      · exact List.mem_append_right _ (k7 a ha)
  | t :: ts, .f :: ms, ρ, ρ2, us, vs, os, ot, h, ht, nd, e => by
    obtain ⟨v, r, o1, o2, rfl, rfl, h1, h2⟩ := ht
    simp only [pullT] at e
    have nd' : (os ++ o2).Nodup := by simp only [List.nodup_append, List.mem_append] at nd ⊢; grind
    obtain ⟨os2, oio, otb, k1, k2, k3, k4, k5, k6, k7⟩ := pull_ok h h2 nd' e
    refine ⟨os2, oio, o1 ++ otb, k1, k2, ⟨o1, otb, rfl, h1, k3⟩, ?_, k5, fun a ha => (k6 a ha).imp id fun z => List.mem_append_right _ z, fun a ha => ?_⟩
    · simp only [List.nodup_append, List.mem_append] at nd k4 ⊢; grind
    · rcases List.mem_append.mp ha with ha | ha
      · exact List.mem_append_left _ ha
      · exact List.mem_append_right _ (k7 a ha)
  | t :: ts, .io :: ms, ρ, ρ2, us, vs, os, ot, h, ht, nd, e => by
    obtain ⟨v, r, o1, o2, rfl, rfl, h1, h2⟩ := ht
    by_cases hl : isLoc t = true
    · cases t with
      | loc i =>
        obtain ⟨rfl, hv⟩ := h1
        simp only [pullT] at e
        split at e
        · rename_i u eu
          split at e
          · rename_i us' ρ' e1
            cases e
            obtain ⟨w, p1, p2, p3, e3, rfl, q1, q2⟩ := Sl.drop h eu
            rw [hv] at e3
            cases e3
            have nd' : ((p1 ++ p3) ++ o2).Nodup := by simp only [List.nodup_append, List.mem_append, List.nil_append] at nd ⊢; grind
            obtain ⟨os2, oio, otb, k1, k2, k3, k4, k5, k6, k7⟩ := pull_ok q2 h2 nd' e1
            refine ⟨os2, p2 ++ oio, otb, k1, ?_, k3, ?_, fun a ha => ?_, fun a ha => ?_, fun a ha => List.mem_append_right _ (k7 a ha)⟩
            · simp only [TmRs, ioV]; exact ⟨v, _, p2, oio, rfl, rfl, q1, k2⟩
            · simp only [List.nodup_append, List.mem_append, List.nil_append] at nd k4 k5 k6 ⊢; grind
            · have := k5 a ha; simp only [List.mem_append] at this ⊢; grind
            · simp only [List.mem_append] at k6 ha ⊢; grind
          · cases e
        · cases e
      | v k d => simp [isLoc] at hl
      | tp ts => simp [isLoc] at hl
      | ls ts => simp [isLoc] at hl
      | ob c ts => simp [isLoc] at hl
    · have hl' : isLoc t = false := by simpa using hl
      have e' : (match pullT ts ms ρ with | some (us, ρ') => some (t :: us, ρ') | none => none) = some (us, ρ2) := by
        cases t <;> first | exact e | simp [isLoc] at hl'
      split at e'
      · rename_i us' ρ' e1
        cases e'
        have nd' : (os ++ o2).Nodup := by simp only [List.nodup_append, List.mem_append] at nd ⊢; grind
        obtain ⟨os2, oio, otb, k1, k2, k3, k4, k5, k6, k7⟩ := pull_ok h h2 nd' e1
        refine ⟨os2, o1 ++ oio, otb, k1, ?_, k3, ?_, k5, fun a ha => ?_, fun a ha => List.mem_append_right _ (k7 a ha)⟩
        · simp only [TmRs, ioV]; exact ⟨v, _, o1, oio, rfl, rfl, tm_of h1 (notLoc hl'), k2⟩
        · simp only [List.nodup_append, List.mem_append] at nd k4 k5 k6 k7 ⊢; grind
        · simp only [List.mem_append] at k6 ha ⊢; grind
      · cases e'
/-- forgetting the owner, keeping whose addresses they are -/
theorem imp3 {A B C C' : Prop} (h : C → C') (p : A ∨ B ∨ C) : A ∨ B ∨ C' := p.imp id fun q => q.imp id h
mutual
theorem tm_toDP {H : Hp} {fz : Addr → Prop} : ∀ (t : Tm) (v : V) (os : List Addr), TmR G H fz pr t v os → Rep G H (fun a => fz a ∨ pr a ∨ a ∈ os) (toD t) v
  | .v .F d, v, os, h => by simp only [TmR] at h; simp only [toD]; exact h.2.mono fun a p => .inl p
  | .v .B d, v, os, h => by simp only [TmR] at h; simp only [toD]; exact h.2.mono fun a p => p.imp id .inl
  | .v .O d, v, os, h => by simp only [TmR] at h; simp only [toD]; exact h.any.mono fun a p => p.imp id .inr
  | .tp ts, v, os, h => by simp only [TmR] at h; simp only [toD, Rep]; obtain ⟨a, vs, e, h1, h2⟩ := h; exact ⟨a, vs, e, h1, tms_toDP ts vs os h2⟩
  | .ls ts, v, os, h => by
    simp only [TmR] at h; simp only [toD, Rep]
    obtain ⟨a, vs, o, e, rfl, h1, h2⟩ := h
    exact ⟨a, vs, e, .inr (.inr List.mem_cons_self), h1, (tms_toDP ts vs o h2).mono fun b p => imp3 (List.mem_cons_of_mem _) p⟩
  | .ob c ts, v, os, h => by
    simp only [TmR] at h; simp only [toD, Rep]
    obtain ⟨a, dx, vs, o, e, rfl, h1, hl, h2⟩ := h
    exact ⟨a, dx, vs, e, .inr (.inr List.mem_cons_self), h1, hl, (tms_toDP ts vs o h2).mono fun b p => imp3 (List.mem_cons_of_mem _) p⟩
  | .loc i, v, os, h => by simp only [TmR] at h
theorem tms_toDP {H : Hp} {fz : Addr → Prop} : ∀ (ts : List Tm) (vs : List V) (os : List Addr), TmRs G H fz pr ts vs os → Reps G H (fun a => fz a ∨ pr a ∨ a ∈ os) (toDs ts) vs
  | [], vs, os, h => by simp only [TmRs] at h; simp only [toDs, Reps]; exact h.1
  | t :: ts, vs, os, h => by
    simp only [TmRs] at h; simp only [toDs, Reps]
    obtain ⟨v, r, o1, o2, rfl, rfl, h1, h2⟩ := h
    exact ⟨v, r, rfl, (tm_toDP t v o1 h1).mono fun a p => imp3 (List.mem_append_left _) p, (tms_toDP ts r o2 h2).mono fun a p => imp3 (List.mem_append_right _) p⟩
end
/-- the callee's parameters -/
theorem params_ok {os2 otb : List Addr} {pr' : Addr → Prop} {ρ2 : Ss} (hs : Sl G s.H s.fz pr ρ2 σ os2) (hp : ∀ a, (pr a ∨ a ∈ os2 ∨ a ∈ otb) → s.fz a ∨ pr' a) :
    ∀ {ts : List Tm} {ms : List Md} {us ps : List Tm} {vs : List V} {o1 o2 : List Addr}, TmRs G s.H s.fz pr us (ioV ms vs) o1 → TmTb G pr σ s ts ms vs o2 → (∀ a ∈ o2, a ∈ otb) → paramsT ts ms us ρ2 = some ps →
    Sl G s.H s.fz pr' (ps.map some) (vs.map some) o1
  | [], [], us, ps, vs, o1, o2, h, hb, ho, e => by
    cases us with
    | nil =>
      simp only [paramsT, Option.some.injEq] at e
      subst e
      cases vs with
      | nil => simp only [ioV, TmRs] at h; simp only [List.map_nil, Sl]; exact ⟨trivial, h.2⟩
      | cons v vs => simp [TmTb] at hb
    | cons u us => simp [paramsT] at e
  | [], m :: ms, us, ps, vs, o1, o2, h, hb, ho, e => by cases m <;> simp [paramsT] at e
  | t :: ts, [], us, ps, vs, o1, o2, h, hb, ho, e => by simp [paramsT] at e
  | t :: ts, .io :: ms, us, ps, vs, o1, o2, h, hb, ho, e => by
    cases us with
    | nil => simp [paramsT] at e
    | cons u us =>
      cases vs with
      | nil => simp [TmTb] at hb
      | cons v vs =>
        simp only [paramsT, Option.map_eq_some_iff] at e
        obtain ⟨ps', e, rfl⟩ := e
        simp only [ioV, TmRs] at h
        obtain ⟨v', r, p1, p2, ev, rfl, h1, h2⟩ := h
        cases ev
        simp only [TmTb] at hb
        simp only [List.map_cons, Sl]
        refine ⟨v, _, p1, p2, rfl, rfl, ?_, params_ok hs hp h2 hb ho e⟩
        exact TmR.keep (fun _ h => h) (fun a p => hp a (.inl p)) (Tk.refl _) _ _ _ (fun a o _ e => e) h1
  | t :: ts, .b :: ms, us, ps, vs, o1, o2, h, hb, ho, e => by
    cases vs with
    | nil => simp [TmTb] at hb
    | cons v vs =>
      simp only [paramsT] at e
      split at e
      · rename_i x ps' e1 e2
        cases e
        simp only [ioV] at h
        obtain ⟨p1, p2, rfl, h1, h2⟩ := hb
        simp only [List.map_cons, Sl]
        refine ⟨v, _, [], o1, rfl, rfl, ?_, params_ok hs hp h h2 (fun a ha => ho a (List.mem_append_right _ ha)) e2⟩
        simp only [TmR]
        refine ⟨trivial, ?_⟩
        cases t with
        | loc i =>
          obtain ⟨rfl, hv⟩ := h1
          simp only [derT] at e1
          split at e1
          · rename_i u eu
            cases e1
            obtain ⟨w, q1, q2, q3, e3, e4, hx, _⟩ := Sl.get hs eu
            rw [hv] at e3
            cases e3
            refine (tm_toDP _ _ _ hx).mono fun a p => ?_
            rcases p with p | p | p
            · exact .inl p
            · exact hp a (.inl p)
            · exact hp a (.inr (.inl (by rw [e4]; simp [p])))
          · cases e1
        | v k d =>
          cases e1
          refine (tm_toDP _ _ _ h1).mono fun a p => ?_
          rcases p with p | p | p
          · exact .inl p
          · exact hp a (.inl p)
          · exact hp a (.inr (.inr (ho a (List.mem_append_left _ p))))
        | tp ts =>
          cases e1
          refine (tm_toDP _ _ _ h1).mono fun a p => ?_
          rcases p with p | p | p
          · exact .inl p
          · exact hp a (.inl p)
          · exact hp a (.inr (.inr (ho a (List.mem_append_left _ p))))
        | ls ts =>
          cases e1
          refine (tm_toDP _ _ _ h1).mono fun a p => ?_
          rcases p with p | p | p
          · exact .inl p
          · exact hp a (.inl p)
          · exact hp a (.inr (.inr (ho a (List.mem_append_left _ p))))
        | ob c ts =>
          cases e1
          refine (tm_toDP _ _ _ h1).mono fun a p => ?_
          rcases p with p | p | p
          · exact .inl p
          · exact hp a (.inl p)
          · exact hp a (.inr (.inr (ho a (List.mem_append_left _ p))))
      · cases e
  | t :: ts, .f :: ms, us, ps, vs, o1, o2, h, hb, ho, e => by
    cases vs with
    | nil => simp [TmTb] at hb
    | cons v vs =>
      simp only [paramsT] at e
      split at e
      · rename_i d ps' e2
        cases e
        simp only [ioV] at h
        obtain ⟨p1, p2, rfl, h1, h2⟩ := hb
        simp only [List.map_cons, Sl]
        refine ⟨v, _, [], o1, rfl, rfl, ?_, params_ok hs hp h h2 (fun a ha => ho a (List.mem_append_right _ ha)) e2⟩
        simp only [TmT, TmR] at h1
        simp only [TmR]
        exact ⟨trivial, h1.2⟩
      · rename_i d ps' e2
        split at e
        · rename_i hf
          cases e
          simp only [ioV] at h
          obtain ⟨p1, p2, rfl, h1, h2⟩ := hb
          simp only [List.map_cons, Sl]
          refine ⟨v, _, [], o1, rfl, rfl, ?_, params_ok hs hp h h2 (fun a ha => ho a (List.mem_append_right _ ha)) e2⟩
          simp only [TmT, TmR] at h1
          simp only [TmR]
          exact ⟨trivial, Rep.flat _ _ hf h1.2⟩
        · cases e
      · cases e
/-- what is given back goes to its slots -/
theorem put_ok : ∀ {ts : List Tm} {ms : List Md} {us : List Tm} {ρ2 ρ3 : Ss} {vs : List V} {os2 oio : List Addr}, Sl G s.H s.fz pr ρ2 σ os2 → TmRs G s.H s.fz pr us (ioV ms vs) oio → (∀ (i : Nat) t v, ts[i]? = some t → vs[i]? = some v → ∀ j, t = .loc j → σ[j]? = some (some v)) → ts.length = vs.length → (os2 ++ oio).Nodup → putT ts ms us ρ2 = some ρ3 →
    ∃ os3, Sl G s.H s.fz pr ρ3 σ os3 ∧ os3.Nodup ∧ ∀ a ∈ os3, a ∈ os2 ∨ a ∈ oio
  | [], [], us, ρ2, ρ3, vs, os2, oio, h, hu, hv, hl, nd, e => by
    cases us with
    | nil => simp only [putT, Option.some.injEq] at e; subst e; rw [List.nodup_append] at nd; exact ⟨os2, h, nd.1, fun a ha => .inl ha⟩
    | cons u us => simp [putT] at e
  | [], m :: ms, us, ρ2, ρ3, vs, os2, oio, h, hu, hv, hl, nd, e => by cases m <;> simp [putT] at e
  | t :: ts, [], us, ρ2, ρ3, vs, os2, oio, h, hu, hv, hl, nd, e => by simp [putT] at e
  | t :: ts, .b :: ms, us, ρ2, ρ3, vs, os2, oio, h, hu, hv, hl, nd, e => by
    cases vs with
    | nil => simp at hl
    | cons v vs =>
      simp only [putT] at e
      exact put_ok (vs := vs) h (show TmRs G s.H s.fz pr us (ioV ms vs) oio from hu) (fun i t v h1 h2 => hv (i + 1) t v (by simpa using h1) (by simpa using h2)) (by simpa using hl) nd e
  | t :: ts, .f :: ms, us, ρ2, ρ3, vs, os2, oio, h, hu, hv, hl, nd, e => by
    cases vs with
    | nil => simp at hl
    | cons v vs =>
      simp only [putT] at e
      exact put_ok (vs := vs) h (show TmRs G s.H s.fz pr us (ioV ms vs) oio from hu) (fun i t v h1 h2 => hv (i + 1) t v (by simpa using h1) (by simpa using h2)) (by simpa using hl) nd e
  | t :: ts, .io :: ms, us, ρ2, ρ3, vs, os2, oio, h, hu, hv, hl, nd, e => by
    cases vs with
    | nil => simp at hl
    | cons v vs =>
      cases us with
      | nil => simp [putT] at e
      | cons u us =>
        simp only [ioV, TmRs] at hu
        obtain ⟨v', r, p1, p2, ev, rfl, h1, h2⟩ := hu
        cases ev
        have rest : ∀ {ρ : Ss} {os : List Addr}, Sl G s.H s.fz pr ρ σ os → (os ++ p2).Nodup → putT ts ms us ρ = some ρ3 → ∃ os3, Sl G s.H s.fz pr ρ3 σ os3 ∧ os3.Nodup ∧ ∀ a ∈ os3, a ∈ os ∨ a ∈ p2 := fun hs hn he =>
          put_ok hs h2 (fun i t v h1 h2 => hv (i + 1) t v (by simpa using h1) (by simpa using h2)) (by simpa using hl) hn he
        cases t with
        | loc j =>
          simp only [putT] at e
          split at e
          · rename_i hj
            obtain ⟨q1, q2, q3, rfl, hs⟩ := Sl.put h1 h hj
            have hvj := hv 0 (.loc j) v rfl rfl j rfl
            have e2 : σ.set j (some v) = σ := by
              apply List.ext_getElem?
              intro k
              by_cases hk : k = j
              · subst hk
                rw [List.getElem?_set_self (by have := (List.getElem?_eq_some_iff.mp hvj).1; exact this), hvj]
              · rw [List.getElem?_set_ne (Ne.symm hk)]
            rw [e2] at hs
            obtain ⟨os3, k1, k2, k3⟩ := rest hs (by simp only [List.nodup_append, List.mem_append] at nd ⊢; grind) e
            exact ⟨os3, k1, k2, fun a ha => by have := k3 a ha; simp only [List.mem_append] at this ⊢; grind⟩
          · cases e
        | v k d =>
          simp only [putT] at e
          obtain ⟨os3, k1, k2, k3⟩ := rest h (by simp only [List.nodup_append, List.mem_append] at nd ⊢; grind) e
          exact ⟨os3, k1, k2, fun a ha => by have := k3 a ha; simp only [List.mem_append] at this ⊢; grind⟩
        | tp ts' =>
          simp only [putT] at e
          obtain ⟨os3, k1, k2, k3⟩ := rest h (by simp only [List.nodup_append, List.mem_append] at nd ⊢; grind) e
          exact ⟨os3, k1, k2, fun a ha => by have := k3 a ha; simp only [List.mem_append] at this ⊢; grind⟩
        | ls ts' =>
          simp only [putT] at e
          obtain ⟨os3, k1, k2, k3⟩ := rest h (by simp only [List.nodup_append, List.mem_append] at nd ⊢; grind) e
          exact ⟨os3, k1, k2, fun a ha => by have := k3 a ha; simp only [List.mem_append] at this ⊢; grind⟩
        | ob c ts' =>
          simp only [putT] at e
          obtain ⟨os3, k1, k2, k3⟩ := rest h (by simp only [List.nodup_append, List.mem_append] at nd ⊢; grind) e
          exact ⟨os3, k1, k2, fun a ha => by have := k3 a ha; simp only [List.mem_append] at this ⊢; grind⟩
theorem TmTs.len : ∀ {ts : List Tm} {vs : List V} {ot : List Addr}, TmTs G pr σ s ts vs ot → ts.length = vs.length
  | [], vs, ot, h => by obtain ⟨rfl, _⟩ := h; rfl
  | t :: ts, vs, ot, h => by obtain ⟨v, r, o1, o2, rfl, rfl, _, h2⟩ := h; simp [TmTs.len h2]
theorem TmTs.loc : ∀ {ts : List Tm} {vs : List V} {ot : List Addr}, TmTs G pr σ s ts vs ot → ∀ (i : Nat) t v, ts[i]? = some t → vs[i]? = some v → ∀ j, t = .loc j → σ[j]? = some (some v)
  | [], vs, ot, h, i, t, v, h1, h2, j, e => by simp at h1
  | t0 :: ts, vs, ot, h, i, t, v, h1, h2, j, e => by
    obtain ⟨w, r, o1, o2, rfl, rfl, k1, k2⟩ := h
    cases i with
    | zero =>
      simp only [List.getElem?_cons_zero, Option.some.injEq] at h1 h2
      subst h1 h2 e
      exact k1.2
    | succ i => exact TmTs.loc k2 i t v (by simpa using h1) (by simpa using h2) j e
/-- the parameters' places that are given back -/
def ioPos : Nat → List Md → List Nat
  | _, [] => []
  | k, .io :: ms => k :: ioPos (k + 1) ms
  | k, _ :: ms => ioPos (k + 1) ms
def ioZip : Nat → List Md → List V → List (Nat × V)
  | k, .io :: ms, v :: vs => (k, v) :: ioZip (k + 1) ms vs
  | k, _ :: ms, _ :: vs => ioZip (k + 1) ms vs
  | _, _, _ => []
theorem ioZip_fst : ∀ (k : Nat) (ms : List Md) (vs : List V), ms.length = vs.length → (ioZip k ms vs).map Prod.fst = ioPos k ms
  | k, [], vs, h => by cases vs <;> rfl
  | k, m :: ms, [], h => by simp at h
  | k, m :: ms, v :: vs, h => by
    have h' : ms.length = vs.length := by simpa using h
    cases m <;> simp [ioZip, ioPos, ioZip_fst _ _ _ h']
theorem ioZip_snd : ∀ (k : Nat) (ms : List Md) (vs : List V), (ioZip k ms vs).map Prod.snd = ioV ms vs
  | k, [], vs => by cases vs <;> rfl
  | k, m :: ms, [] => by cases m <;> rfl
  | k, m :: ms, v :: vs => by cases m <;> simp [ioZip, ioV, ioZip_snd]
theorem ioZip_at : ∀ (k : Nat) (ms : List Md) (vs : List V), ∀ p ∈ ioZip k ms vs, ∃ j, p.1 = k + j ∧ vs[j]? = some p.2
  | k, [], vs, p, h => by cases vs <;> simp [ioZip] at h
  | k, m :: ms, [], p, h => by cases m <;> simp [ioZip] at h
  | k, m :: ms, v :: vs, p, h => by
    have go : p ∈ ioZip (k + 1) ms vs → ∃ j, p.1 = k + j ∧ (v :: vs)[j]? = some p.2 := fun h => by
      obtain ⟨j, e1, e2⟩ := ioZip_at (k + 1) ms vs p h
      exact ⟨j + 1, by omega, by simpa using e2⟩
    cases m with
    | b => exact go h
    | f => exact go h
    | io =>
      simp only [ioZip, List.mem_cons] at h
      rcases h with rfl | h
      · exact ⟨0, rfl, rfl⟩
      · exact go h
theorem pull_len : ∀ {ts : List Tm} {ms : List Md} {ρ : Ss} {q : List Tm × Ss}, pullT ts ms ρ = some q → ts.length = ms.length
  | [], [], ρ, q, e => rfl
  | [], m :: ms, ρ, q, e => by cases m <;> simp [pullT] at e
  | t :: ts, [], ρ, q, e => by simp [pullT] at e
  | t :: ts, .b :: ms, ρ, q, e => by simp only [pullT] at e; simp [pull_len e]
  | t :: ts, .f :: ms, ρ, q, e => by simp only [pullT] at e; simp [pull_len e]
  | t :: ts, .io :: ms, ρ, q, e => by
    have k : ∀ {ρ' : Ss} {o : Option (List Tm × Ss)}, pullT ts ms ρ' = o → o.isSome = true → ts.length = ms.length := fun h1 h2 => by
      obtain ⟨q', hq⟩ := Option.isSome_iff_exists.mp h2
      rw [hq] at h1
      exact pull_len h1
    cases t with
    | loc i =>
      simp only [pullT] at e
      split at e
      · split at e
        · rename_i e1
          simp [k e1 rfl]
        · cases e
      · cases e
    | v k' d => simp only [pullT] at e; split at e; · rename_i e1; simp [k e1 rfl]
                · cases e
    | tp _ => simp only [pullT] at e; split at e; · rename_i e1; simp [k e1 rfl]
              · cases e
    | ls _ => simp only [pullT] at e; split at e; · rename_i e1; simp [k e1 rfl]
              · cases e
    | ob _ _ => simp only [pullT] at e; split at e; · rename_i e1; simp [k e1 rfl]
                · cases e
/-- THE CALL: a promise by value, asked by the caller -/
theorem call_read {f : Fn} {ms : List Md} {ts : List Tm} {vs : List V} {ot : List Addr} {n : Nat} {E : XK} (hn : ms.length = n) (r1 : SR G pr io σ s1) (x1 : Ext s s1) (p1 : Tps G pr σ s1 ts vs ot) (f1 : Frs s ot)
    (hE : ∀ cls d H, W cls d σ H → E cls d H) (q : OuP G W pr io σ s (callF f ms ts s1.ρ) Q) : spV G n (ioPos 0 ms) f vs s1.H Q E := by
  unfold callF at q
  split at q
  · rename_i us ρ2 e1
    split at q
    · rename_i ps e2
      have nd0 : (s1.os ++ ot).Nodup := by
        rw [List.nodup_append]
        exact ⟨r1.nd, p1.nd, fun a ha b hb z => by subst z; exact (p1.sep a hb).2.2 ha⟩
      obtain ⟨os2, oio, otb, k1, k2, k3, k4, k5, k6, k7⟩ := pull_ok r1.sl p1.rel nd0 e1
      have hlen : ts.length = ms.length := pull_len e1
      have hlv : ts.length = vs.length := p1.rel.len
      have ownA : ∀ a, (a ∈ s1.os ∨ a ∈ ot) → Own s1.H a := fun a h => h.elim (r1.own a) (p1.rel.own a)
      have sepA : ∀ a, (a ∈ s1.os ∨ a ∈ ot) → ¬ s1.fz a ∧ ¬ pr a := fun a h => h.elim (r1.sep a) fun z => ⟨(p1.sep a z).1, (p1.sep a z).2.1⟩
      let pr' : Addr → Prop := fun a => s1.H a ≠ none ∧ a ∉ oio
      have dis : ∀ a ∈ oio, a ∉ os2 ∧ a ∉ otb := fun a ha => by simp only [List.nodup_append, List.mem_append] at k4; grind
      have hp : ∀ a, (pr a ∨ a ∈ os2 ∨ a ∈ otb) → s1.fz a ∨ pr' a := fun a h => by
        refine .inr ⟨?_, fun z => ?_⟩
        · rcases h with h | h | h
          · exact r1.dom a (.inr h)
          · exact (ownA a (.inl (k5 a h))).ne
          · exact (ownA a (.inr (k7 a h))).ne
        · rcases h with h | h | h
          · exact (sepA a (k6 a z)).2 h
          · exact (dis a z).1 h
          · exact (dis a z).2 h
      have hsl : Sl G s1.H s1.fz pr' (ps.map some) (vs.map some) oio := params_ok k1 hp k2 k3 (fun a h => h) e2
      have r0 : SR G pr' (ioZip 0 ms vs) (vs.map some) { H := s1.H, fz := s1.fz, os := oio, ρ := ps.map some } := by
        refine ⟨hsl, ?_, fun a ha => ⟨(sepA a (k6 a ha)).1, fun z => z.2 ha⟩, fun a h => ?_, fun p hp => ?_⟩
        · simp only [List.nodup_append] at k4; exact k4.2.1.1
        · rcases h with h | h
          · exact r1.dom a (.inl h)
          · exact h.1
        · obtain ⟨j, h1, h2⟩ := ioZip_at 0 ms vs p hp
          rw [h1, Nat.zero_add, List.getElem?_map, h2]
          rfl
      refine ⟨by rw [← hn, ← hlen, hlv], pr', ioZip 0 ms vs, { H := s1.H, fz := s1.fz, os := oio, ρ := ps.map some }, ps, rfl, ioZip_fst 0 ms vs (by rw [← hlen, hlv]), rfl, r0, ?_⟩
      rw [ioZip_snd]
      -- behind the call
      have back : ∀ {us' : List Tm} {ρ3 : Ss} {s' : Sx} {oio' : List Addr}, putT ts ms us' ρ2 = some ρ3 → Ext { H := s1.H, fz := s1.fz, os := oio, ρ := ps.map some } s' → (∀ a, (s'.fz a ∨ pr' a) → s'.H a ≠ none) → TmRs G s'.H s'.fz (fun _ => False) us' (ioV ms vs) oio' →
          oio'.Nodup → (∀ a ∈ oio', ¬ s'.fz a ∧ ¬ pr' a ∧ (a ∈ oio ∨ s1.H a = none)) → ∃ os3, SR G pr io σ { s' with ρ := ρ3, os := os3 } ∧ Ext s { s' with ρ := ρ3, os := os3 } ∧ ∀ a ∈ os3, a ∈ os2 ∨ a ∈ oio' := by
        intro us' ρ3 s' oio' e3 x' dom' hus nd' sep'
        have kp : ∀ a o, s1.H a = some o → a ∉ oio → s'.H a = some o := x'.keep
        have sl2 : Sl G s'.H s'.fz pr ρ2 σ os2 := Sl.keep x'.fz (fun a p => .inr p) x'.tk (fun a o p e => kp a o e fun z => by
          rcases p with p | p | p
          · exact (dis a z).1 p
          · exact (sepA a (k6 a z)).1 p
          · exact (sepA a (k6 a z)).2 p) k1
        have dis2 : ∀ a ∈ os2, a ∉ oio' := fun a ha hb => by
          rcases (sep' a hb).2.2 with z | z
          · exact (dis a z).1 ha
          · exact (ownA a (.inl (k5 a ha))).ne z
        have hus' : TmRs G s'.H s'.fz pr us' (ioV ms vs) oio' := TmRs.keep (fun _ h => h) (fun a p => p.elim) (Tk.refl _) _ _ _ (fun a o _ e => e) hus
        have nd2 : (os2 ++ oio').Nodup := by
          rw [List.nodup_append]
          simp only [List.nodup_append] at k4
          exact ⟨k4.1, nd', fun a ha b hb z => by subst z; exact dis2 a ha hb⟩
        obtain ⟨os3, m1, m2, m3⟩ := put_ok (s := s') sl2 hus' p1.rel.loc hlv nd2 e3
        refine ⟨os3, ⟨m1, m2, fun a ha => ?_, fun a h => ?_, r1.iov⟩, ⟨fun a o e n => ?_, fun a h => ?_, x1.tk.trans x'.tk, fun a h => x'.fz a (x1.fz a h), fun a h => ?_, fun a ha => ?_⟩, m3⟩
        · rcases m3 a ha with h | h
          · refine ⟨fun z => ?_, (sepA a (.inl (k5 a h))).2⟩
            rcases x'.fzo a z with y | y | y
            · exact (sepA a (.inl (k5 a h))).1 y
            · exact (dis a y).1 h
            · exact (ownA a (.inl (k5 a h))).ne y
          · refine ⟨(sep' a h).1, fun z => ?_⟩
            rcases (sep' a h).2.2 with y | y
            · exact (sepA a (k6 a y)).2 z
            · exact r1.dom a (.inr z) y
        · rcases h with h | h
          · exact dom' a (.inl h)
          · exact x'.dom a (r1.dom a (.inr h))
        · refine kp a o (x1.keep a o e n) fun z => ?_
          rcases k6 a z with y | y
          · rcases x1.oso a y with w | w
            · exact n w
            · rw [e] at w; cases w
          · rcases f1 a y with w | w
            · exact n w
            · rw [e] at w; cases w
        · exact x'.dom a (x1.dom a h)
        · rcases x'.fzo a h with y | y | y
          · exact x1.fzo a y
          · exact .inr ((k6 a y).elim (x1.oso a) (f1 a))
          · exact .inr (.inr (x1.back y))
        · rcases m3 a ha with h | h
          · exact x1.oso a (k5 a h)
          · rcases (sep' a h).2.2 with y | y
            · exact (k6 a y).elim (x1.oso a) (f1 a)
            · exact .inr (x1.back y)
      unfold FoP
      split at q
      · rename_i t us' ef
        split at q
        · rename_i ρ3 e3
          simp only [ef]
          intro v s' oio' ott x' dom' hus ht nd' sep'
          simp only [List.nodup_append] at nd'
          obtain ⟨os3, r3, x3, m3⟩ := back e3 x' dom' hus nd'.1 fun a ha => sep' a (List.mem_append_left _ ha)
          refine q v { s' with ρ := ρ3, os := os3 } ott rfl r3 x3 ⟨?_, nd'.2.1, fun a ha => ⟨(sep' a (List.mem_append_right _ ha)).1, fun z => ?_, fun z => ?_⟩⟩ fun a ha => ?_
          · exact loc_of (TmR.keep (fun _ h => h) (fun a p => p.elim) (Tk.refl _) _ _ _ (fun a o _ e => e) ht)
          · rcases (sep' a (List.mem_append_right _ ha)).2.2 with y | y
            · exact (sepA a (k6 a y)).2 z
            · exact r1.dom a (.inr z) y
          · rcases m3 a z with h | h
            · rcases (sep' a (List.mem_append_right _ ha)).2.2 with y | y
              · exact (dis a y).1 h
              · exact (ownA a (.inl (k5 a h))).ne y
            · exact nd'.2.2 a h a ha rfl
          · rcases (sep' a (List.mem_append_right _ ha)).2.2 with y | y
            · exact (k6 a y).elim (x1.oso a) (f1 a)
            · exact .inr (x1.back y)
        · exact q.elim
      · rename_i e us' ef
        split at q
        · rename_i ρ3 e3
          simp only [ef]
          intro cls d s' oio' x' dom' hus he nd' sep'
          obtain ⟨os3, r3, x3, m3⟩ := back e3 x' dom' hus nd' sep'
          exact hE _ _ _ (q cls d { s' with ρ := ρ3, os := os3 } rfl r3 x3 he)
        · exact q.elim
      · exact q.elim
    · exact q.elim
  · exact q.elim
variable {k : Nat} {fa : Addr} {fd : FuncData} {ps : List Str} {n : Nat} {fn : Fn} {ms : List Md} {x : Str} {p pos apos : Pos} {a o : Expr} {e : Expr} {es : List Expr} {gs : Ss → OuL} {ga : Ev}
theorem call_end {t : TA} (ht : t = tEvs G W ios gs) (hn : ms.length = n) {H : Hp} (q : tEv G W ios (eCall fn ms gs) σ H Q) : t σ H fun vs H1 => spV G n (ioPos 0 ms) fn vs H1 Q (WE W σ) := by
  subst ht
  obtain ⟨pr, io, s, rfl, hi, r, q⟩ := of_tEv q
  exact tEvs_of hi r (OuLP.bind0 q fun ts vs s1 ot r1 x1 p1 f1 q1 => call_read hn r1 x1 p1 f1 (fun _ _ _ h => h) q1)
/-- f(e, ..) -/
theorem v_call (F : FnG X.prog X.w X.K X.mg X.base k fa fd ps (spV G n (ioPos 0 ms) fn)) (hr : RoomG k X.A) (tk : L2N.Takes X W) (hm : X.mg x = some (.ref fa)) (hk : PySem.W.keepIn X.K (.ref fa) = true) (hb : Binds X.K fd ps []) (ha : PAv X G W ios (e :: es) gs)
    (hn : ms.length = n := by rfl) (hg : Gl X x := by rfl) (hdb : (x == ("__debug__" : Str)) = false := by decide) (he : starEach (e :: es) X.env = (false, eval e X.env) :: starEach es X.env := by rfl) (hpl : (backTo pos (starEach es X.env)).any (·.1) = false := by rfl) :
    PEv X G W ios (.Call (.Name x p) (e :: es) [] pos) (eCall fn ms gs) :=
  pe_imp (pe_callG (E := WE W) F hr hg hm hk hb (L2N.passAt tk) ha hdb he hpl) fun σ H Q q => call_end rfl hn q
end
end PV

namespace PV
open PySem PySem.Spec L2

/-! ### targets -/
abbrev Tg := Tm → Ss → Option Ss
/-- σ' is σ but for the names tv -/
def Out (σ σ' : L2.St) (tv : List Nat) : Prop := σ'.length = σ.length ∧ ∀ i, i ∉ tv → σ'[i]? = σ[i]?
def gTg (G : Gx) (ios tv : List Nat) (tgt : Tg) : TG := fun v σ H Q => ∃ pr io s0 s t ot, s.H = H ∧ io.map Prod.fst = ios ∧ SR G pr io σ s ∧ Ext s0 s ∧ Tp G pr σ s t v ot ∧ Frs s0 ot ∧ match tgt t s.ρ with
  | some ρ' => ∀ σ' s', s'.ρ = ρ' → SR G pr io σ' s' → Ext s0 s' → Out σ σ' tv → Q σ' s'.H
  | none => False
abbrev PGv (X : Cx) (G : Gx) (ios tv : List Nat) (e : Expr) (tgt : Tg) : Prop := PG X e (gTg G ios tv tgt)
/-- several targets, their values in flight -/
abbrev Tgs := List Tm → Ss → Option Ss
def gTgs (G : Gx) (ios tv : List Nat) (tgt : Tgs) : TGs := fun vs σ H Q => ∃ pr io s0 s ts ot, s.H = H ∧ io.map Prod.fst = ios ∧ SR G pr io σ s ∧ Ext s0 s ∧ (TmRs G s.H s.fz pr ts vs ot ∧ ot.Nodup ∧ ∀ a ∈ ot, ¬ s.fz a ∧ ¬ pr a ∧ a ∉ s.os) ∧ Frs s0 ot ∧ match tgt ts s.ρ with
  | some ρ' => ∀ σ' s', s'.ρ = ρ' → SR G pr io σ' s' → Ext s0 s' → Out σ σ' tv → Q σ' s'.H
  | none => False
abbrev PGsv (X : Cx) (G : Gx) (ios tv : List Nat) (e : List Expr) (tgt : Tgs) : Prop := PGs X e (gTgs G ios tv tgt)
theorem pg_imp {X : Cx} {x : Expr} {t t' : TG} (h : PG X x t) (i : ∀ v σ H Q, t' v σ H Q → t v σ H Q) : PG X x t' := ⟨fun pins s σ H v u Q I r q => h.run pins s σ H v u Q I r (i v σ H Q q)⟩
theorem pgs_imp {X : Cx} {x : List Expr} {t t' : TGs} (h : PGs X x t) (i : ∀ v σ H Q, t' v σ H Q → t v σ H Q) : PGs X x t' := ⟨fun pins s σ H v u Q I r q => h.run pins s σ H v u Q I r (i v σ H Q q)⟩
def tgN (i : Nat) : Tg := fun t ρ => if isLoc t = false ∧ i < ρ.length then some (ρ.set i (some t)) else none
def tgsNil : Tgs := fun ts ρ => match ts with
  | [] => some ρ
  | _ => none
def tgsCons (g : Tg) (gs : Tgs) : Tgs := fun ts ρ => match ts with
  | t :: ts => match g t ρ with
    | some ρ1 => gs ts ρ1
    | none => none
  | [] => none
/-- the parts of a tuple, a list -/
def partsT : Tm → Option (List Tm)
  | .v k (.tup xs) => some (xs.map (subK k))
  | .v k (.lst xs) => some (xs.map (subK k))
  | .tp ts => some ts
  | _ => none
def tgTup (gs : Tgs) : Tg := fun t ρ => match t with
  | .v k (.tup xs) => gs (xs.map (subK k)) ρ
  | .tp ts => gs ts ρ
  | _ => none
section
variable {G : Gx} {W : WX} {pr : Addr → Prop} {io : List (Nat × V)} {σ : L2.St} {s s1 : Sx} {ios : List Nat} {X : Cx} {a b c e : Expr} {pos p : Pos} {ga gb gc : Ev} {st : Stmt} {es : List Expr}
theorem g_name (i : Nat) {x : Str} (hN : X.N.Nodup) (hio : i ∉ ios) (hi : X.N[i]? = some x := by rfl) (hx : Loc X.env.scope x := by first | exact Or.inl rfl | exact Or.inr rfl) (hf : X.fn x = true ∨ X.env.scope.names.lookup x = some .local := by first | exact .inl rfl | exact .inr rfl | assumption) :
    PGv X G ios [i] (.Name x pos) (tgN i) := pg_imp (pg_name hN hi hx hf) fun v σ H Q q => by
  obtain ⟨pr, io, s0, s, t, ot, rfl, hi, r, x, p, f, q⟩ := q
  unfold tgN at q
  split at q
  · rename_i ρ' e
    split at e
    · rename_i hc
      cases e
      obtain ⟨os', r2, x2⟩ := r.store x p f hc.1 hc.2 (by rw [hi]; exact hio)
      exact q _ { s with ρ := s.ρ.set i (some t), os := os' } rfl r2 x2 ⟨List.length_set, fun j hj => List.getElem?_set_ne (by simpa using Ne.symm (by simpa using hj))⟩
    · cases e
  · exact q.elim
theorem gs_nil : PGsv X G ios [] [] tgsNil := pgs_imp pgs_nil fun v σ H Q q => by
  obtain ⟨pr, io, s0, s, ts, ot, rfl, hi, r, x, ⟨h, nd, sep⟩, f, q⟩ := q
  cases ts with
  | nil =>
    simp only [TmRs] at h
    exact ⟨h.1, q σ s rfl r x ⟨rfl, fun _ _ => rfl⟩⟩
  | cons t ts => exact q.elim
/-- what is in flight stands while other values in flight are stored -/
theorem tms_on {s' : Sx} {o1 o2 : List Addr} {ts : List Tm} {vs : List V} (h : TmRs G s.H s.fz pr ts vs o2) (sep : ∀ a ∈ o2, ¬ s.fz a ∧ ¬ pr a ∧ a ∉ s.os ∧ a ∉ o1) (r : SR G pr io σ s) (sep1 : ∀ a ∈ o1, ¬ s.fz a ∧ ¬ pr a) (x : Ext { s with os := s.os ++ o1 } s') :
    TmRs G s'.H s'.fz pr ts vs o2 ∧ ∀ a ∈ o2, ¬ s'.fz a ∧ ¬ pr a ∧ a ∉ s'.os := by
  have own := TmRs.own _ _ _ h
  refine ⟨TmRs.keep x.fz (fun a p => .inr p) x.tk _ _ _ (fun a o p e => x.keep a o e fun z => ?_) h, fun a ha => ⟨fun z => ?_, (sep a ha).2.1, fun z => ?_⟩⟩
  · rcases List.mem_append.mp z with z | z
    · rcases p with p | p | p
      · exact (sep a p).2.2.1 z
      · exact (r.sep a z).1 p
      · exact (r.sep a z).2 p
    · rcases p with p | p | p
      · exact (sep a p).2.2.2 z
      · exact (sep1 a z).1 p
      · exact (sep1 a z).2 p
  · rcases x.fzo a z with y | y | y
    · exact (sep a ha).1 y
    · rcases List.mem_append.mp y with y | y
      · exact (sep a ha).2.2.1 y
      · exact (sep a ha).2.2.2 y
    · exact (own a ha).ne y
  · rcases x.oso a z with y | y
    · rcases List.mem_append.mp y with y | y
      · exact (sep a ha).2.2.1 y
      · exact (sep a ha).2.2.2 y
    · exact (own a ha).ne y
theorem Ext.plus {s0 : Sx} {o1 : List Addr} (x : Ext s0 s) (f : Frs s0 o1) : Ext s0 { s with os := s.os ++ o1 } := ⟨x.keep, x.dom, x.tk, x.fz, x.fzo, fun a ha => (List.mem_append.mp ha).elim (x.oso a) (f a)⟩
theorem Ext.minus {o1 : List Addr} : Ext { s with os := s.os ++ o1 } s := ⟨fun _ _ h _ => h, fun _ h => h, Tk.refl _, fun _ h => h, fun _ h => .inl h, fun _ h => .inl (List.mem_append_left _ h)⟩
theorem Out.app {σ σ1 σ2 : L2.St} {t1 t2 : List Nat} (a : Out σ σ1 t1) (b : Out σ1 σ2 t2) : Out σ σ2 (t1 ++ t2) := ⟨b.1.trans a.1, fun i hi => by
  rw [List.mem_append, not_or] at hi
  exact (b.2 i hi.2).trans (a.2 i hi.1)⟩
theorem gs_cons {g : Tg} {gs : Tgs} {t1 t2 : List Nat} (h1 : PGv X G ios t1 e g) (h2 : PGsv X G ios t2 es gs) (hs : (assignEach (e :: es) X.env).map (·.2) = assign e X.env :: (assignEach es X.env).map (·.2) := by rfl) : PGsv X G ios (t1 ++ t2) (e :: es) (tgsCons g gs) := by
  refine pgs_imp (pgs_cons h1 h2 hs) fun v σ H Q q => ?_
  obtain ⟨pr, io, s0, s, ts, ot, rfl, hi, r, x, ⟨h, nd, sep⟩, f, q⟩ := q
  cases ts with
  | nil => exact q.elim
  | cons t ts =>
    simp only [TmRs] at h
    obtain ⟨v, vr, o1, o2, rfl, rfl, k1, k2⟩ := h
    simp only [tgsCons] at q
    cases eg : g t s.ρ with
    | none => rw [eg] at q; exact q.elim
    | some ρ1 =>
      rw [eg] at q
      rw [List.nodup_append] at nd
      have f1 : Frs s0 o1 := fun a ha => f a (List.mem_append_left _ ha)
      have f2 : Frs s0 o2 := fun a ha => f a (List.mem_append_right _ ha)
      have sep1 : ∀ a ∈ o1, ¬ s.fz a ∧ ¬ pr a ∧ a ∉ s.os := fun a ha => sep a (List.mem_append_left _ ha)
      refine ⟨v, vr, rfl, pr, io, { s with os := s.os ++ o1 }, s, t, o1, rfl, hi, r, Ext.minus, ⟨loc_of k1, nd.1, sep1⟩, fun a ha => .inl (List.mem_append_right _ ha), ?_⟩
      rw [eg]
      intro σ' s' e1 r' x' o'
      subst e1
      obtain ⟨k2', sep2⟩ := tms_on k2 (o1 := o1) (fun a ha => by
        have := sep a (List.mem_append_right _ ha)
        exact ⟨this.1, this.2.1, this.2.2, fun z => nd.2.2 a z a ha rfl⟩) r (fun a ha => ⟨(sep1 a ha).1, (sep1 a ha).2.1⟩) x'
      refine ⟨pr, io, s0, s', ts, o2, rfl, hi, r', (x.plus f1).trans x', ⟨k2', nd.2.1, sep2⟩, f2, ?_⟩
      dsimp only at q
      cases eg2 : gs ts s'.ρ with
      | none => rw [eg2] at q; exact q.elim
      | some ρ2 => rw [eg2] at q; exact fun σ2 s2 h1 h2 h3 h4 => q σ2 s2 h1 h2 h3 (o'.app h4)
theorem sub_reps {H : Hp} {fz : Addr → Prop} {k : Kd} : ∀ {xs : List D} {vs : List V}, Reps G H (if k = .B then fun a => fz a ∨ pr a else fz) xs vs → TmRs G H fz pr (xs.map (subK k)) vs []
  | [], vs, h => by simp only [Reps] at h; subst h; simp [TmRs]
  | x :: xs, vs, h => by
    simp only [Reps] at h
    obtain ⟨v, r, rfl, h1, h2⟩ := h
    simp only [List.map_cons, TmRs]
    refine ⟨v, r, [], [], rfl, rfl, ?_, sub_reps h2⟩
    cases k <;> simp only [subK, TmR] <;> exact ⟨trivial, by simpa using h1⟩
theorem g_tup {gs : Tgs} {kk n : Nat} {tv : List Nat} (hc : X.calm = true) (h : PGsv X G ios tv es gs) (hlen : ∀ ts ρ ρ', gs ts ρ = some ρ' → ts.length = n) (hn : (assignEach es X.env).length = n := by rfl) (hst : (assignEach es X.env).findIdx? (·.1) = none := by rfl) : PGv X G ios tv (.Tuple es kk pos) (tgTup gs) := by
  refine pg_imp (pg_tup hc h hn hst) fun v σ H Q q => ?_
  obtain ⟨pr, io, s0, s, t, ot, rfl, hi, r, x, p, f, q⟩ := q
  unfold tgTup at q
  cases t with
  | v k d =>
    cases d <;> simp only at q
    case tup xs =>
      have hx : TmR G s.H s.fz pr (.v k (.tup xs)) v ot := p.rel
      obtain ⟨a, vs, rfl, h1, h2⟩ := tup_all hx
      cases eg : gs (xs.map (subK k)) s.ρ with
      | none => rw [eg] at q; exact q.elim
      | some ρ' =>
        rw [eg] at q
        refine ⟨a, vs, rfl, .of h1, ?_, pr, io, s0, s, _, [], rfl, hi, r, x, ⟨sub_reps h2, .nil, fun a ha => by cases ha⟩, Frs.nil, ?_⟩
        · have := hlen _ _ _ eg
          rw [List.length_map] at this
          rw [← h2.len]; exact this
        · rw [eg]; exact q
    all_goals exact q.elim
  | tp ts =>
    have hx : TmR G s.H s.fz pr (.tp ts) v ot := p.rel
    simp only [TmR] at hx
    obtain ⟨a, vs, rfl, h1, h2⟩ := hx
    simp only at q
    cases eg : gs ts s.ρ with
    | none => rw [eg] at q; exact q.elim
    | some ρ' =>
      rw [eg] at q
      refine ⟨a, vs, rfl, .of h1, ?_, pr, io, s0, s, ts, ot, rfl, hi, r, x, ⟨h2, p.nd, p.sep⟩, f, ?_⟩
      · rw [← TmRs.len h2]; exact hlen _ _ _ eg
      · rw [eg]; exact q
  | loc i => exact q.elim
  | ls ts => exact q.elim
  | ob c ts => exact q.elim
theorem len_nil : ∀ (ts : List Tm) (ρ ρ' : Ss), tgsNil ts ρ = some ρ' → ts.length = 0 := fun ts ρ ρ' h => by
  cases ts with
  | nil => rfl
  | cons t ts => simp [tgsNil] at h
theorem len_cons {g : Tg} {gs : Tgs} {n : Nat} (h : ∀ ts ρ ρ', gs ts ρ = some ρ' → ts.length = n) : ∀ (ts : List Tm) (ρ ρ' : Ss), tgsCons g gs ts ρ = some ρ' → ts.length = n + 1 := fun ts ρ ρ' e => by
  cases ts with
  | nil => simp [tgsCons] at e
  | cons t ts =>
    simp only [tgsCons] at e
    split at e
    · simp [h _ _ _ e]
    · cases e
/-- target = e -/
def sAsg (tgt : Tg) (g : Ev) : Sm := fun ρ => (g ρ).toF fun t ρ1 => match tgt t ρ1 with
  | some ρ2 => .nx ρ2
  | none => .no
theorem s_asg {tg : Expr} {tgt : Tg} {tv : List Nat} (ha : PEv X G W ios a ga) (hg : PGv X G ios tv tg tgt) (hs : swapsWithSole [tg] a pos.line X.env = pure false := by rfl) (hw : swappedStores [tg] a X.env = pure none := by rfl)
    (h1 : (assignEach [tg] X.env).map (·.2) = [assign tg X.env] := by rfl) : PSv X G W ios (.Assign [tg] a pos) (sAsg tgt ga) := ps_imp (ps_asg ha hg hs hw h1) fun D σ H q => by
  obtain ⟨pr, io, s, rfl, hi, r, q⟩ := of_tSv q
  refine tEv_of hi r (FlP.toF q fun t v s1 ot r1 x1 p1 f1 q1 => ?_)
  refine ⟨pr, io, s, s1, t, ot, rfl, hi, r1, x1, p1, f1, ?_⟩
  cases e : tgt t s1.ρ with
  | none => rw [e] at q1; exact q1.elim
  | some ρ' => rw [e] at q1; exact fun σ' s' h1 h2 h3 _ => q1 σ' s' h1 h2 h3

/-! ### for -/
def forL (tgt : Tg) (body : Sm) : List Tm → Ss → Fl
  | [], ρ => .nx ρ
  | t :: ts, ρ => match tgt t ρ with
    | some ρ1 => match body ρ1 with
      | .nx ρ2 => forL tgt body ts ρ2
      | .ct ρ2 => forL tgt body ts ρ2
      | .bk ρ2 => .nx ρ2
      | o => o
    | none => .no
/-- what is walked: a value in flight, the items -/
abbrev Iv := Ss → OuL
def sFor (it : Iv) (tgt : Tg) (body : Sm) : Sm := fun ρ => match it ρ with
  | .ok ts ρ1 => forL tgt body ts ρ1
  | .ex e ρ1 => .ex e ρ1
  | .no => .no
/-- what is asked of the walked thing: a walk of those items -/
def tIv (G : Gx) (W : WX) (ios : List Nat) (g : Iv) : TI := fun σ H R => ∃ pr io s, s.H = H ∧ io.map Prod.fst = ios ∧ SR G pr io σ s ∧ match g s.ρ with
  | .ok ts ρ' => ∀ J s1, s1.ρ = ρ' → SR G pr io σ s1 → Ext s s1 → (∃ Gd Y, Walk J ts.length Gd Y ∧ ∀ s2 σ2, SR G pr io σ2 s2 → Ext s1 s2 → Gd s2.H ∧ ∀ i x H', i < ts.length → Y i s2.H x H' →
      ∃ s3 t, s3.H = H' ∧ s3.ρ = s2.ρ ∧ SR G pr io σ2 s3 ∧ Ext s2 s3 ∧ ts[i]? = some t ∧ Tp G pr σ2 s3 t x []) → R J s1.H
  | .ex e ρ' => ∀ cls d s', s'.ρ = ρ' → SR G pr io σ s' → Ext s s' → ErR G s'.H s'.fz e cls d → W cls d σ s'.H
  | .no => False
abbrev PIv (X : Cx) (G : Gx) (W : WX) (ios : List Nat) (tg it : Expr) (g : Iv) : Prop := PI X tg it (tIv G W ios g)
theorem s_for {tg iter : Expr} {body : List Stmt} {it : Iv} {tgt : Tg} {gb : Sm} {tv : List Nat} (hp : PassesOwn (model X.prog X.w) X.A X.env X.xe) (hc : X.calm = true) (hit : PIv X G W ios tg iter it) (hg : PGv X G ios tv tg tgt) (hb : PBv X G W ios body gb)
    (hs : ∀ x, foldedSetIterable iter X.env x = pure x := by intro _; rfl) : PSv X G W ios (.For tg iter body [] pos) (sFor it tgt gb) := ps_imp (ps_for hp hc hit hg hb hs) fun D σ H q => by
  obtain ⟨pr, io, s, rfl, hi, r, q⟩ := of_tSv q
  refine ⟨pr, io, s, rfl, hi, r, ?_⟩
  unfold sFor at q
  cases e : it s.ρ with
  | no => rw [e] at q; exact q.elim
  | ex e' ρ' => rw [e] at q; exact fun cls d s' h1 h2 h3 h4 => q cls d σ s' h1 h2 h3 h4
  | ok ts ρ' =>
    rw [e] at q
    simp only at q
    intro J s1 e1 r1 x1 ⟨Gd, Y, w, hw⟩
    subst e1
    refine for_it w (fun i σ2 H2 => ∃ s2, s2.H = H2 ∧ SR G pr io σ2 s2 ∧ Ext s1 s2 ∧ FlP G W pr io s2 (forL tgt gb (ts.drop i) s2.ρ) D) ⟨s1, rfl, r1, Ext.refl _, by simpa using FlP.later q x1⟩ ?_ ?_ ?_
    · rintro i σ2 H2 _ ⟨s2, rfl, r2, x2, _⟩
      exact (hw s2 σ2 r2 x2).1
    · rintro i x σ2 H2 H' hlt ⟨s2, rfl, r2, x2, q2⟩ y
      obtain ⟨s3, t, rfl, e3, r3, x3, e4, p3⟩ := (hw s2 σ2 r2 x2).2 i x H' hlt y
      have ed : ts.drop i = t :: ts.drop (i + 1) := by
        rw [List.drop_eq_getElem_cons hlt]
        rw [List.getElem?_eq_getElem hlt] at e4
        cases e4
        rfl
      rw [ed] at q2
      simp only [forL] at q2
      refine ⟨pr, io, s3, s3, t, [], rfl, hi, r3, Ext.refl _, p3, Frs.nil, ?_⟩
      rw [← e3] at q2
      cases eg : tgt t s3.ρ with
      | none => rw [eg] at q2; exact q2.elim
      | some ρ1 =>
        rw [eg] at q2
        intro σ4 s4 e4 r4 x4 _
        subst e4
        refine tSv_of hi r4 ?_
        have q4 := FlP.later q2 (x3.trans x4)
        dsimp only at q4
        have x14 : Ext s1 s4 := (x2.trans x3).trans x4
        cases eb : gb s4.ρ with
        | nx ρ' => rw [eb] at q4; exact fun σ5 s5 e5 r5 x5 => by subst e5; exact ⟨s5, rfl, r5, x14.trans x5, FlP.later q4 x5⟩
        | ct ρ' => rw [eb] at q4; exact fun σ5 s5 e5 r5 x5 => by subst e5; exact ⟨s5, rfl, r5, x14.trans x5, FlP.later q4 x5⟩
        | bk ρ' => rw [eb] at q4; exact q4
        | rt t' ρ' => rw [eb] at q4; exact q4
        | ex e' ρ' => rw [eb] at q4; exact q4
        | no => rw [eb] at q4; exact q4
    · rintro σ2 H2 ⟨s2, rfl, r2, x2, q2⟩
      rw [List.drop_length] at q2
      exact q2 σ2 s2 rfl r2 (Ext.refl _)
end
end PV

namespace PV
open PySem PySem.Spec L2

section
variable {G : Gx} {W : WX} {pr : Addr → Prop} {io : List (Nat × V)} {σ : L2.St} {s s1 : Sx} {ios : List Nat} {X : Cx} {a b c e tg : Expr} {pos p : Pos} {ga gb gc : Ev}

/-! ### what is walked -/
/-- a list or a tuple, by the expression's value -/
def iSeq (K : PySem.W.Frag) (tl : TE) : TI := fun σ H R => tl σ H fun x H1 => ∃ a, x = .ref a ∧ (((∃ xs, SqL K H1 a xs) ∧ R (Itl K a) H1) ∨ ((∃ xs, SqT K H1 a xs) ∧ R (Itt K a) H1))
theorem pi_seq {l : Expr} {tl : TE} (hl : PE X l tl) : PI X tg l (iSeq X.K tl) := by
  refine ⟨fun pins s σ H R I h => ?_⟩
  refine thn (hl.run pins s σ H _ I h) fun v s1 ⟨x, H1, I1, r1, q1⟩ => ?_
  obtain ⟨a, e, ⟨⟨xs, hq⟩, q⟩ | ⟨⟨xs, hq⟩, q⟩⟩ := q1
  · subst e
    cases r1
    obtain ⟨its, rv, p, hz⟩ := I1.list hq
    refine wpAny_pyIter_list p.isList ?_
    refine ⟨s1.heap.objs.size, [s1.heap.objs.size], _, _, H1, rfl, I1.kept (t' := s1.toks) fun b o e => Heap.get?_push_of_some _ e, turn_list a _, ⟨_, Heap.get?_push_size _ rfl, rfl, rfl⟩, fun b hb => ?_, q⟩
    have e : b = s1.heap.objs.size := by simpa using hb
    subst e
    exact I1.fpOk (Nat.le_refl _) (I1.hok.fresh (Nat.le_refl _))
  · subst e
    cases r1
    obtain ⟨its, rv, p, hz⟩ := I1.tuple hq
    refine wpAny_pyIter_tuple (show s1.heap.IsTuple a its.toArray from p) ?_
    refine ⟨s1.heap.objs.size, [s1.heap.objs.size], _, _, H1, rfl, I1.kept (t' := s1.toks) fun b o e => Heap.get?_push_of_some _ e, turn_tuple a _, ⟨_, Heap.get?_push_size _ rfl, rfl, rfl⟩, fun b hb => ?_, q⟩
    have e : b = s1.heap.objs.size := by simpa using hb
    subst e
    exact I1.fpOk (Nat.le_refl _) (I1.hok.fresh (Nat.le_refl _))
/-- items of a list or tuple that stands still -/
def itemsT : Tm → Option (List Tm)
  | .v k (.lst xs) => some (xs.map (subK k))
  | .v k (.tup xs) => some (xs.map (subK k))
  | _ => none
/-- for x in (a list, a tuple): one that no name owns -/
def itSeq (g : Ev) : Iv := fun ρ => (g ρ).bindL fun t ρ1 => match itemsT t with
  | some ts => .ok ts ρ1
  | none => .no
theorem sub_tm {H : Hp} {fz : Addr → Prop} {k : Kd} {d : D} {v : V} (h : Rep G H (if k = .B then fun a => fz a ∨ pr a else fz) d v) : TmR G H fz pr (subK k d) v [] := by
  cases k <;> simp only [subK, TmR] <;> exact ⟨trivial, by simpa using h⟩
theorem tp_sub {k : Kd} {d : D} {v : V} (h : Rep G s.H (if k = .B then fun a => s.fz a ∨ pr a else s.fz) d v) : Tp G pr σ s (subK k d) v [] := ⟨loc_of (sub_tm h), .nil, fun a ha => by cases ha⟩
/-- the data in flight stands still through what comes later -/
theorem Tp.reps {k : Kd} {xs : List D} {vs : List V} {v : V} {ot : List Addr} {s2 : Sx} (r1 : SR G pr io σ s1) (h : Reps G s1.H (if k = .B then fun a => s1.fz a ∨ pr a else s1.fz) xs vs) (x : Ext s1 s2) : Reps G s2.H (if k = .B then fun a => s2.fz a ∨ pr a else s2.fz) xs vs := by
  refine Reps.keep (fun a p => ?_) (fun a o p e => x.keep a o e fun z => ?_) x.tk _ _ h
  · by_cases hk : k = .B
    · rw [if_pos hk] at p ⊢; exact p.imp (x.fz a) id
    · rw [if_neg hk] at p ⊢; exact x.fz a p
  · by_cases hk : k = .B
    · rw [if_pos hk] at p; exact p.elim (r1.sep a z).1 (r1.sep a z).2
    · rw [if_neg hk] at p; exact (r1.sep a z).1 p
theorem i_seq (ha : PEv X G W ios a ga) (hK : G.K = X.K) : PIv X G W ios tg a (itSeq ga) := by
  refine ⟨fun pins s σ H R I q => (pi_seq (tg := tg) ha).run pins s σ H R I ?_⟩
  obtain ⟨pr, io, s, rfl, hi, r, q⟩ := q
  have q' : OuLP G W pr io σ s ((ga s.ρ).bindL fun t ρ1 => match itemsT t with | some ts => .ok ts ρ1 | none => .no) (fun _ _ => True) ∨ True := .inr trivial
  refine tEv_of hi r ?_
  unfold itSeq at q
  cases eg : ga s.ρ with
  | no => rw [eg] at q; exact q.elim
  | ex e ρ' => rw [eg] at q; exact q
  | ok t ρ' =>
    rw [eg] at q
    intro v s1 ot e1 r1 x1 p1 f1
    subst e1
    simp only [Ou.bindL] at q
    cases t with
    | v k d =>
      cases d <;> simp only [itemsT] at q
      case tup xs =>
        obtain ⟨a, vs, rfl, h1, h2⟩ := tup_all (show TmR G s1.H s1.fz pr (.v k (.tup xs)) v ot from p1.rel)
        refine ⟨a, rfl, .inr ⟨⟨vs, .of h1⟩, q _ s1 rfl r1 x1 ⟨fun H => SqT X.K H a vs, YAt vs, ?_, fun s2 σ2 r2 x2 => ⟨SqT.of (x2.tk.1 _ _ h1), fun i x H' hlt y => ?_⟩⟩⟩⟩
        · rw [List.length_map, h2.len]; exact walk_tup
        · obtain ⟨rfl, hx⟩ := y
          rw [List.length_map] at hlt
          have h2' := Tp.reps (v := .non) (ot := []) r1 h2 x2
          obtain ⟨w, hw, hd⟩ := h2'.get (List.getElem?_eq_getElem hlt)
          rw [hx] at hw; cases hw
          exact ⟨s2, _, rfl, rfl, r2, Ext.refl _, by rw [List.getElem?_map, List.getElem?_eq_getElem hlt]; rfl, tp_sub hd⟩
      case lst xs =>
        obtain ⟨a, vs, rfl, h1, h2⟩ := lst_all (show TmR G s1.H s1.fz pr (.v k (.lst xs)) v ot from p1.rel)
        have hno : a ∉ s1.os := by
          have hh : TmR G s1.H s1.fz pr (.v k (.lst xs)) (.ref a) ot := p1.rel
          cases k with
          | F =>
            simp only [TmR, Rep] at hh
            obtain ⟨_, b, _, eb, hb, _⟩ := hh
            cases eb
            exact fun z => (r1.sep a z).1 hb
          | B =>
            simp only [TmR, Rep] at hh
            obtain ⟨_, b, _, eb, hb, _⟩ := hh
            cases eb
            exact fun z => hb.elim (r1.sep a z).1 (r1.sep a z).2
          | O =>
            simp only [TmR, RepO] at hh
            obtain ⟨b, _, eb, hb, _⟩ := hh
            cases eb
            exact (p1.sep a (by rw [hb]; simp)).2.2
        refine ⟨a, rfl, .inl ⟨⟨vs, .of h1⟩, q _ s1 rfl r1 x1 ⟨fun H => SqL X.K H a vs, YAt vs, ?_, fun s2 σ2 r2 x2 => ⟨SqL.of (x2.keep _ _ h1 hno), fun i x H' hlt y => ?_⟩⟩⟩⟩
        · rw [List.length_map, h2.len]; exact walk_list
        · obtain ⟨rfl, hx⟩ := y
          rw [List.length_map] at hlt
          have h2' := Tp.reps (v := .non) (ot := []) r1 h2 x2
          obtain ⟨w, hw, hd⟩ := h2'.get (List.getElem?_eq_getElem hlt)
          rw [hx] at hw; cases hw
          exact ⟨s2, _, rfl, rfl, r2, Ext.refl _, by rw [List.getElem?_map, List.getElem?_eq_getElem hlt]; rfl, tp_sub hd⟩
      all_goals exact q.elim
    | loc i => exact q.elim
    | tp ts => exact q.elim
    | ls ts => exact q.elim
    | ob c ts => exact q.elim
/-- range(n), range(lo, hi) -/
def rngL (lo : Int) (n : Nat) : List Tm := (List.range n).map fun (i : Nat) => Tm.v .F (.int (lo + (i : Int)))
def itR1 (g : Ev) : Iv := fun ρ => (g ρ).bindL fun t ρ1 => match asI t with
  | some j => if -(2 ^ 62) ≤ j ∧ j < 2 ^ 62 then .ok (rngL 0 j.toNat) ρ1 else .no
  | none => .no
def itR2 (ga gb : Ev) : Iv := fun ρ => (ga ρ).bindL fun t ρ1 => (gb ρ1).bindL fun u ρ2 => match asI t, asI u with
  | some i, some j => if -(2 ^ 62) ≤ i ∧ i < 2 ^ 62 ∧ -(2 ^ 62) ≤ j ∧ j < 2 ^ 62 then .ok (rngL i (j - i).toNat) ρ2 else .no
  | _, _ => .no
theorem walk_rng {lo : Int} {n : Nat} : ∃ Gd Y, Walk (Itr lo n) (rngL lo n).length Gd Y ∧ ∀ s2 σ2, SR G pr io σ2 s2 → Ext s1 s2 → Gd s2.H ∧ ∀ i x H', i < (rngL lo n).length → Y i s2.H x H' →
      ∃ s3 t, s3.H = H' ∧ s3.ρ = s2.ρ ∧ SR G pr io σ2 s3 ∧ Ext s2 s3 ∧ (rngL lo n)[i]? = some t ∧ Tp G pr σ2 s3 t x [] := by
  have hl : (rngL lo n).length = n := by simp [rngL]
  refine ⟨_, _, by rw [hl]; exact walk_range, fun s2 σ2 r2 x2 => ⟨trivial, fun i x H' hlt y => ?_⟩⟩
  rw [hl] at hlt
  obtain ⟨rfl, rfl⟩ := y
  refine ⟨s2, .v .F (.int (lo + i)), rfl, rfl, r2, Ext.refl _, by simp [rngL, hlt], ⟨?_, .nil, fun a ha => by cases ha⟩⟩
  show TmR _ _ _ _ _ _ _
  simp only [TmR, Rep]
  exact ⟨trivial, trivial⟩
theorem i_r1 (hm : X.mg "range" = none) (ha : PEv X G W ios a ga) (hg : Gl X "range" := by rfl) (hs : starEach [a] X.env = [(false, eval a X.env)] := by rfl) : PIv X G W ios tg (.Call (.Name "range" p) [a] [] pos) (itR1 ga) := by
  refine ⟨fun pins s σ H R I q => (pi_range1 (tg := tg) hg hm (pa_cons ha pa_nil hs) hs).run pins s σ H R I ?_⟩
  obtain ⟨pr, io, s, rfl, hi, r, q⟩ := q
  refine tEv_of hi r ?_
  unfold itR1 at q
  cases eg : ga s.ρ with
  | no => rw [eg] at q; exact q.elim
  | ex e ρ' => rw [eg] at q; exact q
  | ok t ρ' =>
    rw [eg] at q
    intro v s1 ot e1 r1 x1 p1 f1
    subst e1
    simp only [Ou.bindL] at q
    cases ei : asI t with
    | none => rw [ei] at q; exact q.elim
    | some j =>
      rw [ei] at q
      have ev := asI_of p1 ei
      subst ev
      simp only at q
      by_cases hj : -(2 ^ 62) ≤ j ∧ j < 2 ^ 62
      · rw [if_pos hj] at q
        exact ⟨j, rfl, hj.1, hj.2, q _ s1 rfl r1 x1 walk_rng⟩
      · rw [if_neg hj] at q
        exact q.elim
/-! ### while -/
def whileN : Nat → Ev → Sm → Ss → Fl
  | 0, _, _, _ => .no
  | n + 1, gc, gb, ρ => (gc ρ).toF fun t ρ1 => match asB t with
    | some true => match gb ρ1 with
      | .nx ρ2 => whileN n gc gb ρ2
      | .ct ρ2 => whileN n gc gb ρ2
      | .bk ρ2 => .nx ρ2
      | o => o
    | some false => .nx ρ1
    | none => .no
def sWhile (n : Nat) (gc : Ev) (gb : Sm) : Sm := whileN n gc gb
end
end PV

namespace PV
open PySem PySem.Spec L2

/-! ### comprehensions -/
def wipeS (ρ : Ss) : List Nat → Ss
  | [] => ρ
  | v :: vs => (wipeS ρ vs).set v none
/-- the block's own names get back what they held outside -/
def restS (ρ0 ρ : Ss) : List Nat → Ss
  | [] => ρ
  | v :: vs => (restS ρ0 ρ vs).set v (match ρ0[v]? with | some o => o | none => none)
def hideOk (ρ : Ss) (v : Nat) : Bool := match ρ[v]? with
  | some none => true
  | some (some (.v .F _)) => true
  | some (some (.v .B _)) => true
  | _ => false
def compL (tgt : Tg) (test elt : Ev) (vs : List Nat) : List Tm → Ss → Option (List D × Ss)
  | [], ρ => some ([], wipeS ρ vs)
  | t :: ts, ρ => match tgt t (wipeS ρ vs) with
    | some ρ1 => match test ρ1 with
      | .ok b ρ2 => match asB b with
        | some true => match elt ρ2 with
          | .ok x ρ3 => match frz x with
            | some d => match compL tgt test elt vs ts ρ3 with
              | some (ds, ρ4) => some (d :: ds, ρ4)
              | none => none
            | none => none
          | _ => none
        | some false => compL tgt test elt vs ts ρ2
        | none => none
      | _ => none
    | none => none
def eTrue : Ev := fun ρ => .ok (.v .F (.bl true)) ρ
def eComp (it : Iv) (vs : List Nat) (tgt : Tg) (test elt : Ev) : Ev := fun ρ => match it ρ with
  | .ok ts ρ1 => if vs.all (hideOk ρ1) = true then match compL tgt test elt vs ts ρ1 with
    | some (ds, ρ2) => if ds.length ≤ sizeLine then .ok (.v .O (.lst ds)) (restS ρ1 ρ2 vs) else .no
    | none => .no
    else .no
  | .ex e ρ1 => .ex e ρ1
  | .no => .no
abbrev W0 : WX := fun _ _ _ _ => False
theorem takesW0 {X : Cx} : L2N.Takes X W0 := fun _ _ x => by
  obtain ⟨_, _, _, _, _, _, _, _, _, _, _, _, _, _, _, _, z⟩ := x
  exact z.elim
section
variable {G : Gx} {W : WX} {pr : Addr → Prop} {io : List (Nat × V)} {σ : L2.St} {s s1 : Sx} {ios : List Nat} {X : Cx} {a b c e tg : Expr} {pos p : Pos} {ga gb gc : Ev}
/-- a name forgotten -/
theorem Sl.forget {H : Hp} {fz : Addr → Prop} : ∀ {ρ : Ss} {σ : L2.St} {os : List Addr} (i : Nat), Sl G H fz pr ρ σ os → ∃ os', Sl G H fz pr (ρ.set i none) (σ.set i none) os' ∧ (∀ a ∈ os', a ∈ os) ∧ (os.Nodup → os'.Nodup)
  | [], σ, os, i, h => by simp only [Sl] at h; obtain ⟨rfl, rfl⟩ := h; exact ⟨[], by simp [Sl], fun a ha => ha, id⟩
  | none :: ρ, σ, os, 0, h => by
    simp only [Sl] at h
    obtain ⟨x, r, rfl, h⟩ := h
    exact ⟨os, by simp only [List.set_cons_zero, Sl]; exact ⟨_, r, rfl, h⟩, fun a ha => ha, id⟩
  | none :: ρ, σ, os, i + 1, h => by
    simp only [Sl] at h
    obtain ⟨x, r, rfl, h⟩ := h
    obtain ⟨os', k1, k2, k3⟩ := Sl.forget i h
    exact ⟨os', by simp only [List.set_cons_succ, Sl]; exact ⟨x, _, rfl, k1⟩, k2, k3⟩
  | some t :: ρ, σ, os, 0, h => by
    simp only [Sl] at h
    obtain ⟨v, r, o1, o2, rfl, rfl, h1, h2⟩ := h
    exact ⟨o2, by simp only [List.set_cons_zero, Sl]; exact ⟨_, r, rfl, h2⟩, fun a ha => List.mem_append_right _ ha, fun nd => (List.nodup_append.mp nd).2.1⟩
  | some t :: ρ, σ, os, i + 1, h => by
    simp only [Sl] at h
    obtain ⟨v, r, o1, o2, rfl, rfl, h1, h2⟩ := h
    obtain ⟨os', k1, k2, k3⟩ := Sl.forget i h2
    refine ⟨o1 ++ os', by simp only [List.set_cons_succ, Sl]; exact ⟨v, _, o1, os', rfl, rfl, h1, k1⟩, fun a ha => ?_, fun nd => ?_⟩
    · rcases List.mem_append.mp ha with h | h
      · exact List.mem_append_left _ h
      · exact List.mem_append_right _ (k2 a h)
    · rw [List.nodup_append] at nd ⊢
      exact ⟨nd.1, k3 nd.2.1, fun a ha b hb => nd.2.2 a ha b (k2 b hb)⟩
theorem Sl.wipe {H : Hp} {fz : Addr → Prop} {ρ : Ss} {σ : L2.St} {os : List Addr} (h : Sl G H fz pr ρ σ os) : ∀ vs, ∃ os', Sl G H fz pr (wipeS ρ vs) (L2.wipe σ vs) os' ∧ (∀ a ∈ os', a ∈ os) ∧ (os.Nodup → os'.Nodup)
  | [] => ⟨os, h, fun a ha => ha, id⟩
  | v :: vs => by
    obtain ⟨os', k1, k2, k3⟩ := Sl.wipe h vs
    obtain ⟨os2, m1, m2, m3⟩ := Sl.forget v k1
    exact ⟨os2, m1, fun a ha => k2 a (m2 a ha), fun nd => m3 (k3 nd)⟩
theorem wipe_get {σ : L2.St} {i : Nat} : ∀ {vs : List Nat}, i ∉ vs → (L2.wipe σ vs)[i]? = σ[i]?
  | [], _ => rfl
  | v :: vs, h => by
    rw [List.mem_cons, not_or] at h
    show ((L2.wipe σ vs).set v none)[i]? = _
    rw [List.getElem?_set_ne (Ne.symm h.1), wipe_get h.2]
theorem SR.wipe (r : SR G pr io σ s) {vs : List Nat} (hio : ∀ v ∈ vs, v ∉ io.map Prod.fst) : ∃ os', SR G pr io (L2.wipe σ vs) { s with ρ := wipeS s.ρ vs, os := os' } ∧ ∀ a ∈ os', a ∈ s.os := by
  obtain ⟨os', k1, k2, k3⟩ := r.sl.wipe vs
  refine ⟨os', ⟨k1, k3 r.nd, fun a ha => r.sep a (k2 a ha), r.dom, fun p hp => ?_⟩, k2⟩
  rw [wipe_get fun z => hio p.1 z (List.mem_map_of_mem hp)]
  exact r.iov p hp
/-- slots exchanged for such as nobody owns -/
theorem Sl.mix {H : Hp} {fz : Addr → Prop} : ∀ {ρ ρf : Ss} {σ σf : L2.St} {os : List Addr}, Sl G H fz pr ρ σ os → ρf.length = ρ.length → σf.length = σ.length →
    (∀ i, i < ρ.length → (ρf[i]? = ρ[i]? ∧ σf[i]? = σ[i]?) ∨ ∃ o x, ρf[i]? = some o ∧ σf[i]? = some x ∧ ∀ t, o = some t → ∃ v, x = some v ∧ TmR G H fz pr t v []) → ∃ os', Sl G H fz pr ρf σf os' ∧ (∀ a ∈ os', a ∈ os) ∧ (os.Nodup → os'.Nodup)
  | [], ρf, σ, σf, os, h, h1, h2, hi => by
    simp only [Sl] at h
    obtain ⟨rfl, rfl⟩ := h
    have e1 : ρf = [] := by simpa using h1
    have e2 : σf = [] := by simpa using h2
    subst e1 e2
    exact ⟨[], by simp [Sl], fun a ha => ha, id⟩
  | o0 :: ρ, ρf, σ, σf, os, h, h1, h2, hi => by
    have tail : ∃ y r os2, σ = y :: r ∧ Sl G H fz pr ρ r os2 ∧ (∀ a ∈ os2, a ∈ os) ∧ (os.Nodup → os2.Nodup) := by
      cases o0 with
      | none => simp only [Sl] at h; obtain ⟨y, r, rfl, h⟩ := h; exact ⟨y, r, os, rfl, h, fun a ha => ha, id⟩
      | some t => simp only [Sl] at h; obtain ⟨v, r, o1, o2, rfl, rfl, h1, h2⟩ := h; exact ⟨_, r, o2, rfl, h2, fun a ha => List.mem_append_right _ ha, fun nd => (List.nodup_append.mp nd).2.1⟩
    cases ρf with
    | nil => simp at h1
    | cons of ρf =>
      cases σf with
      | nil => obtain ⟨y, r, os2, rfl, _⟩ := tail; simp at h2
      | cons xf σf =>
        have recu : ∀ {r : L2.St} {os2 : List Addr}, σ.tail = r → Sl G H fz pr ρ r os2 → ∃ os', Sl G H fz pr ρf σf os' ∧ (∀ a ∈ os', a ∈ os2) ∧ (os2.Nodup → os'.Nodup) := fun {r os2} er hs => by
          subst er
          refine Sl.mix hs (by simpa using h1) (by simp only [List.length_cons, List.length_tail] at h2 ⊢; omega) fun i hlt => ?_
          rcases hi (i + 1) (by simpa using hlt) with ⟨k1, k2⟩ | ⟨o, x, k1, k2, k3⟩
          · refine .inl ⟨by simpa using k1, ?_⟩
            simp only [List.getElem?_cons_succ] at k2
            rw [k2, List.getElem?_tail]
          · exact .inr ⟨o, x, by simpa using k1, by simpa using k2, k3⟩
        rcases hi 0 (by simp) with ⟨k1, k2⟩ | ⟨o, x, k1, k2, k3⟩
        · have e1 : of = o0 := by simpa using k1
          subst e1
          cases of with
          | none =>
            simp only [Sl] at h
            obtain ⟨y, r, rfl, h⟩ := h
            have e2 : xf = y := by simpa using k2
            subst e2
            obtain ⟨os', m1, m2, m3⟩ := recu rfl h
            exact ⟨os', by simp only [Sl]; exact ⟨_, _, rfl, m1⟩, m2, m3⟩
          | some t =>
            simp only [Sl] at h
            obtain ⟨v, r, o1, o2, rfl, rfl, p1, p2⟩ := h
            have e2 : xf = some v := by simpa using k2
            subst e2
            obtain ⟨os', m1, m2, m3⟩ := recu rfl p2
            refine ⟨o1 ++ os', by simp only [Sl]; exact ⟨v, _, o1, os', rfl, rfl, p1, m1⟩, fun a ha => ?_, fun nd => ?_⟩
            · rcases List.mem_append.mp ha with h | h
              · exact List.mem_append_left _ h
              · exact List.mem_append_right _ (m2 a h)
            · rw [List.nodup_append] at nd ⊢
              exact ⟨nd.1, m3 nd.2.1, fun a ha b hb => nd.2.2 a ha b (m2 b hb)⟩
        · obtain ⟨y, r, os2, rfl, t1, t2, t3⟩ := tail
          have e1 : of = o := by simpa using k1
          have e2 : xf = x := by simpa using k2
          subst e1 e2
          obtain ⟨os', m1, m2, m3⟩ := recu rfl t1
          refine ⟨os', ?_, fun a ha => t2 a (m2 a ha), fun nd => m3 (t3 nd)⟩
          cases of with
          | none => simp only [Sl]; exact ⟨_, _, rfl, m1⟩
          | some t =>
            obtain ⟨v, rfl, ht⟩ := k3 t rfl
            simp only [Sl]
            exact ⟨v, _, [], os', rfl, rfl, ht, m1⟩
/-- what a hidden slot holds -/
theorem hide_tm (r : SR G pr io σ s) {v : Nat} (h : hideOk s.ρ v = true) : ∃ o, s.ρ[v]? = some o ∧ ∀ t, o = some t → ∃ x, σ[v]? = some (some x) ∧ TmR G s.H s.fz pr t x [] := by
  unfold hideOk at h
  cases e : s.ρ[v]? with
  | none => rw [e] at h; cases h
  | some o =>
    rw [e] at h
    refine ⟨o, rfl, fun t ht => ?_⟩
    subst ht
    obtain ⟨x, o1, o2, o3, e1, e2, ht, _⟩ := Sl.get r.sl e
    have : o2 = [] := by
      cases t with
      | v k d => cases k <;> simp only [TmR] at ht <;> first | exact ht.1 | (simp at h)
      | _ => simp at h
    subst this
    exact ⟨x, e1, ht⟩
theorem rest_len (ρ0 ρ : Ss) : ∀ vs, (restS ρ0 ρ vs).length = ρ.length
  | [] => rfl
  | v :: vs => by simp [restS, rest_len ρ0 ρ vs]
theorem rest_out {ρ0 ρ : Ss} {i : Nat} : ∀ {vs : List Nat}, i ∉ vs → (restS ρ0 ρ vs)[i]? = ρ[i]?
  | [], _ => rfl
  | v :: vs, h => by
    rw [List.mem_cons, not_or] at h
    show ((restS ρ0 ρ vs).set v _)[i]? = _
    rw [List.getElem?_set_ne (Ne.symm h.1), rest_out h.2]
theorem rest_in {ρ0 ρ : Ss} {i : Nat} {o : Option Tm} (e : ρ0[i]? = some o) (hi : i < ρ.length) : ∀ {vs : List Nat}, i ∈ vs → (restS ρ0 ρ vs)[i]? = some o
  | [], h => by cases h
  | v :: vs, h => by
    show ((restS ρ0 ρ vs).set v _)[i]? = _
    by_cases hv : v = i
    · subst hv
      rw [List.getElem?_set_self (by rw [rest_len]; exact hi), e]
    · rw [List.getElem?_set_ne hv]
      rcases List.mem_cons.mp h with h | h
      · exact absurd h.symm hv
      · exact rest_in e hi h
/-- behind a comprehension -/
theorem SR.rest {s2 : Sx} {vs : List Nat} (r1 : SR G pr io σ s1) (x : Ext s1 s2) (hv : vs.all (hideOk s1.ρ) = true) (r2 : SR G pr io (L2.wipe σ vs) s2) : ∃ os', SR G pr io σ { s2 with ρ := restS s1.ρ s2.ρ vs, os := os' } ∧ ∀ a ∈ os', a ∈ s2.os := by
  have hl1 : s1.ρ.length = σ.length := Sl.len r1.sl
  have hl2 : s2.ρ.length = σ.length := by have := Sl.len r2.sl; rw [this, L2.wipe_length]
  obtain ⟨os', k1, k2, k3⟩ := Sl.mix (ρf := restS s1.ρ s2.ρ vs) (σf := σ) r2.sl (rest_len _ _ _) (by rw [L2.wipe_length]) fun i hlt => by
    by_cases hm : i ∈ vs
    · have hh := List.all_eq_true.mp hv i hm
      obtain ⟨o, e1, e2⟩ := hide_tm r1 hh
      have hs : σ[i]? = some (σ[i]'(by omega)) := List.getElem?_eq_getElem (by omega)
      refine .inr ⟨o, _, rest_in e1 hlt hm, hs, fun t ht => ?_⟩
      obtain ⟨v, h1, h2⟩ := e2 t ht
      rw [hs] at h1
      refine ⟨v, Option.some.inj h1, ?_⟩
      exact TmR.keep x.fz (fun a p => .inr p) x.tk _ _ _ (fun a o p e => x.keep a o e fun z => by
        rcases p with p | p | p
        · cases p
        · exact (r1.sep a z).1 p
        · exact (r1.sep a z).2 p) h2
    · exact .inl ⟨rest_out hm, (wipe_get hm).symm⟩
  exact ⟨os', ⟨k1, k3 r2.nd, fun a ha => r2.sep a (k2 a ha), r2.dom, r1.iov⟩, k2⟩
theorem Ext.less {os' : List Addr} {ρ : Ss} (x : Ext s s1) (h : ∀ a ∈ os', a ∈ s1.os) : Ext s { s1 with ρ := ρ, os := os' } := ⟨x.keep, x.dom, x.tk, x.fz, x.fzo, fun a ha => x.oso a (h a ha)⟩
theorem wipe_wipe {σ : L2.St} {vs : List Nat} {σ2 : L2.St} (hl : σ2.length = σ.length) (h : ∀ i, i ∉ vs → σ2[i]? = σ[i]?) : L2.wipe σ2 vs = L2.wipe σ vs := by
  apply List.ext_getElem?
  intro i
  by_cases hm : i ∈ vs
  · have go : ∀ {τ : L2.St} {vs : List Nat}, i ∈ vs → i < τ.length → (L2.wipe τ vs)[i]? = some none := by
      intro τ vs
      induction vs with
      | nil => intro h; cases h
      | cons v vs ih =>
        intro h hlt
        show ((L2.wipe τ vs).set v none)[i]? = _
        by_cases hv : v = i
        · subst hv; rw [List.getElem?_set_self (by rw [L2.wipe_length]; exact hlt)]
        · rw [List.getElem?_set_ne hv]
          rcases List.mem_cons.mp h with h | h
          · exact absurd h.symm hv
          · exact ih h hlt
    by_cases hi : i < σ.length
    · rw [go hm (by omega), go hm hi]
    · rw [List.getElem?_eq_none (by rw [L2.wipe_length]; omega), List.getElem?_eq_none (by rw [L2.wipe_length]; omega)]
  · rw [wipe_get hm, wipe_get hm, h i hm]
/-- a list that nobody knows is changed -/
theorem SR.updD (r : SR G pr io σ s) {d : Addr} {o : HO} (h1 : ¬ s.fz d) (h2 : ¬ pr d) (h3 : d ∉ s.os) (ht : ∀ vs, s.H d ≠ some (.tup vs)) (hf : ∀ o u, s.H d ≠ some (.frz o (.lst u))) : SR G pr io σ { s with H := upd s.H d o } ∧ Tk s.H (upd s.H d o) := by
  have tk : Tk s.H (upd s.H d o) := ⟨fun a vs e => by rw [upd_ne (by rintro rfl; exact ht vs e)]; exact e, fun a o' u e => by rw [upd_ne (by rintro rfl; exact hf o' u e)]; exact e⟩
  refine ⟨⟨Sl.keep (fun _ h => h) (fun _ h => .inr h) tk (fun a u p e => ?_) r.sl, r.nd, r.sep, fun a h => ?_, r.iov⟩, tk⟩
  · show upd _ _ _ _ = _
    rw [upd_ne]
    · exact e
    · rintro rfl
      rcases p with p | p | p
      · exact h3 p
      · exact h1 p
      · exact h2 p
  · show upd _ _ _ _ ≠ none
    by_cases z : a = d
    · subst z; rw [upd_same]; simp
    · rw [upd_ne z]; exact r.dom a h
theorem t_yes : PTs X [] (tTest (tEv G W0 ios eTrue)) := ⟨fun pins s σ H Q I q => pts_nil.run pins s σ H Q I (by
  obtain ⟨pr, io, s, rfl, hi, r, q⟩ := of_tEv q
  exact q.isB r)⟩
theorem t_one (h : PTv X G W0 ios c gc) : PTs X [c] (tTest (tEv G W0 ios gc)) := pts_one h
theorem comp_read {wi : TI} {it : Iv} {vs tv : List Nat} {tgt : Tg} {test elt : Ev} (hwi : wi = tIv G W ios it) (htv : ∀ i ∈ tv, i ∈ vs) (hio : ∀ v ∈ vs, v ∉ ios) {H : Hp} {Q : VK} (q : tEv G W ios (eComp it vs tgt test elt) σ H Q) :
    tLc wi (gTg G ios tv tgt) (tTest (tEv G W0 ios test)) (tEv G W0 ios elt) vs σ H Q := by
  subst hwi
  obtain ⟨pr, io, s, rfl, hi, r, q⟩ := of_tEv q
  unfold eComp at q
  refine ⟨pr, io, s, rfl, hi, r, ?_⟩
  cases eit : it s.ρ with
  | no => rw [eit] at q; exact q.elim
  | ex e ρ' => rw [eit] at q; exact q
  | ok ts ρ' =>
    rw [eit] at q
    dsimp only at q ⊢
    intro J s1 e1 r1 x1 ⟨Gd, Y, w, hw⟩
    subst e1
    by_cases hv : vs.all (hideOk s1.ρ) = true
    · rw [if_pos hv] at q
      cases ec : compL tgt test elt vs ts s1.ρ with
      | none => rw [ec] at q; exact q.elim
      | some res =>
        obtain ⟨ds, ρfin⟩ := res
        rw [ec] at q
        dsimp only at q
        by_cases hds : ds.length ≤ sizeLine
        · rw [if_pos hds] at q
          intro L hL
          have fr := r1.fresh hL
          have hio' : ∀ v ∈ vs, v ∉ io.map Prod.fst := by rw [hi]; exact hio
          refine lc_it w (fun i H2 => ∃ s2 ρi acc accv dsr, s2.H = H2 ∧ s2.ρ = wipeS ρi vs ∧ SR G pr io (L2.wipe σ vs) s2 ∧ Ext s1 s2 ∧ s2.H L = some (.lst accv) ∧ Reps G s2.H s2.fz acc accv ∧ ¬ s2.fz L ∧ L ∉ s2.os ∧ compL tgt test elt vs (ts.drop i) ρi = some (dsr, ρfin) ∧ acc ++ dsr = ds) ?_ ?_ ?_ ?_
          · -- start
            obtain ⟨os', ra, ha⟩ := r1.wipe hio'
            refine ⟨Sx.new { s1 with ρ := wipeS s1.ρ vs, os := os' } L (.lst []), s1.ρ, [], [], ds, rfl, rfl, SR.new ra hL _, ?_, upd_same, by simp [Reps], fr.1, fun z => fr.2.2 (ha _ z), by simpa using ec, rfl⟩
            exact ((Ext.refl s1).less ha).trans (Ext.new (s := { s1 with ρ := wipeS s1.ρ vs, os := os' }) hL _)
          · rintro i H2 _ ⟨s2, ρi, acc, accv, dsr, rfl, _, r2, x2, _⟩
            exact (hw s2 _ r2 x2).1
          · -- a turn
            rintro i x H2 H' hlt ⟨s2, ρi, acc, accv, dsr, rfl, eρ, r2, x2, hL2, hacc, nf, nos, hcomp, hcat⟩ y
            obtain ⟨s3, t, rfl, e3, r3, x3, e4, p3⟩ := (hw s2 _ r2 x2).2 i x H' hlt y
            have ed : ts.drop i = t :: ts.drop (i + 1) := by
              rw [List.drop_eq_getElem_cons hlt]
              rw [List.getElem?_eq_getElem hlt] at e4
              cases e4
              rfl
            rw [ed] at hcomp
            simp only [compL] at hcomp
            refine ⟨pr, io, s3, s3, t, [], rfl, hi, r3, Ext.refl _, p3, Frs.nil, ?_⟩
            rw [e3, eρ]
            cases etg : tgt t (wipeS ρi vs) with
            | none => rw [etg] at hcomp; cases hcomp
            | some ρ1 =>
              rw [etg] at hcomp
              dsimp only at hcomp ⊢
              intro σ4 s4 e5 r4 x4 out4
              subst e5
              have wip : L2.wipe σ4 vs = L2.wipe σ vs := wipe_wipe (out4.1.trans (L2.wipe_length σ vs)) fun i hni => by
                rw [out4.2 i fun z => hni (htv i z), wipe_get hni]
              refine ⟨wip, ?_⟩
              cases ete : test s4.ρ with
              | no => rw [ete] at hcomp; cases hcomp
              | ex e ρ => rw [ete] at hcomp; cases hcomp
              | ok tb ρ2 =>
                rw [ete] at hcomp
                dsimp only at hcomp
                refine tEv_of hi r4 ?_
                rw [ete]
                intro vb s5 otb e6 r5 x5 p5 f5
                subst e6
                cases eb : asB tb with
                | none => rw [eb] at hcomp; cases hcomp
                | some bb =>
                  rw [eb] at hcomp
                  refine ⟨bb, asB_of p5 eb, ?_⟩
                  have x25 : Ext s2 s5 := (x3.trans x4).trans x5
                  have L5 : s5.H L = some (.lst accv) := x25.keep _ _ hL2 nos
                  have nf5 : ¬ s5.fz L := fun z => by
                    rcases x25.fzo L z with k | k | k
                    · exact nf k
                    · exact nos k
                    · rw [hL2] at k; cases k
                  have no5 : L ∉ s5.os := fun z => by
                    rcases x25.oso L z with k | k
                    · exact nos k
                    · rw [hL2] at k; cases k
                  have kacc : ∀ {s' : Sx}, Ext s2 s' → Reps G s'.H s'.fz acc accv := fun {s'} x => Reps.keep x.fz (fun a o p e => x.keep a o e fun z => (r2.sep a z).1 p) x.tk _ _ hacc
                  cases bb with
                  | false =>
                    dsimp only at hcomp
                    refine iteF ?_
                    obtain ⟨os', ra, ha⟩ := r5.wipe hio'
                    rw [wip] at ra
                    exact ⟨{ s5 with ρ := wipeS s5.ρ vs, os := os' }, s5.ρ, acc, accv, dsr, rfl, rfl, ra, (x2.trans x25).less ha, L5, kacc (x25.less ha), nf5, fun z => no5 (ha _ z), hcomp, hcat⟩
                  | true =>
                    dsimp only at hcomp
                    refine iteT ?_
                    cases eel : elt s5.ρ with
                    | no => rw [eel] at hcomp; cases hcomp
                    | ex e ρ => rw [eel] at hcomp; cases hcomp
                    | ok tx ρ3 =>
                      rw [eel] at hcomp
                      dsimp only at hcomp
                      refine tEv_of hi r5 ?_
                      rw [eel]
                      intro vx s6 ox e7 r6 x6 p6 f6
                      subst e7
                      cases efz : frz tx with
                      | none => rw [efz] at hcomp; cases hcomp
                      | some d =>
                        rw [efz] at hcomp
                        dsimp only at hcomp
                        cases erc : compL tgt test elt vs (ts.drop (i + 1)) s6.ρ with
                        | none => rw [erc] at hcomp; cases hcomp
                        | some q2 =>
                          obtain ⟨dsr2, ρf2⟩ := q2
                          rw [erc] at hcomp
                          simp only [Option.some.injEq, Prod.mk.injEq] at hcomp
                          obtain ⟨e8, e9⟩ := hcomp
                          subst e9
                          have x26 := x25.trans x6
                          have L6 : s6.H L = some (.lst accv) := x6.keep _ _ L5 no5
                          have nf6 : ¬ s6.fz L := fun z => by
                            rcases x6.fzo L z with k | k | k
                            · exact nf5 k
                            · exact no5 k
                            · rw [L5] at k; cases k
                          have no6 : L ∉ s6.os := fun z => by
                            rcases x6.oso L z with k | k
                            · exact no5 k
                            · rw [L5] at k; cases k
                          have nox : L ∉ ox := fun z => by
                            rcases f6 L z with k | k
                            · exact no5 k
                            · rw [L5] at k; cases k
                          have nlc : ∀ i, tx ≠ .loc i := fun i z => by subst z; simp [PV.frz] at efz
                          have r7 := r6.frzO (ot := ox) p6.rel.own p6.sep
                          have x7 : Ext s5 (s6.frz ox s6.ρ s6.os) := x6.frzO f6
                          have hd : Rep G s6.H (fun a => s6.fz a ∨ a ∈ ox) d vx := TmR.frz _ _ _ _ (tm_of p6.rel nlc) efz
                          have hacc7 : Reps G s6.H (fun a => s6.fz a ∨ a ∈ ox) acc accv := (kacc x26).mono fun a p => .inl p
                          have nf7 : ¬ (s6.fz L ∨ L ∈ ox) := fun z => z.elim nf6 nox
                          obtain ⟨r8, tk8⟩ := SR.updD (s := s6.frz ox s6.ρ s6.os) (o := .lst (accv ++ [vx])) r7 nf7 fr.2.1 no6 (fun ws z => by rw [show (s6.frz ox s6.ρ s6.os).H L = some (.lst accv) from L6] at z; cases z) fun o u z => by rw [show (s6.frz ox s6.ρ s6.os).H L = some (.lst accv) from L6] at z; cases z
                          obtain ⟨os', ra, ha⟩ := r8.wipe hio'
                          rw [wip] at ra
                          have hlen : accv.length = acc.length := hacc7.len.symm
                          have hsz : accv.length < sizeLine := by
                            have : (acc ++ dsr).length ≤ sizeLine := by rw [hcat]; exact hds
                            rw [List.length_append, ← e8, List.length_cons] at this
                            omega
                          refine ⟨accv, L6, hsz, _, s6.ρ, acc ++ [d], accv ++ [vx], dsr2, rfl, rfl, ra, ?_, upd_same, ?_, nf7, fun z => no6 (ha _ z), erc, by rw [← hcat, ← e8]; simp⟩
                          · have x28 : Ext s1 (s6.frz ox s6.ρ s6.os) := (x2.trans x25).trans x7
                            refine ⟨fun a o e n => ?_, fun a h => ?_, x28.tk.trans tk8, x28.fz, x28.fzo, fun a z => x28.oso a (ha a z)⟩
                            · show upd _ _ _ _ = _
                              rw [upd_ne (ne_of_none e hL)]
                              exact x28.keep a o e n
                            · show upd _ _ _ _ ≠ none
                              by_cases z : a = L
                              · subst z; rw [upd_same]; simp
                              · rw [upd_ne z]; exact x28.dom a h
                          · have kp : ∀ a o, (s6.fz a ∨ a ∈ ox) → s6.H a = some o → (upd s6.H L (.lst (accv ++ [vx]))) a = some o := fun a o p e => by
                              rw [upd_ne (by rintro rfl; exact nf7 p)]; exact e
                            refine (Reps.keep (fun _ h => h) kp tk8 _ _ hacc7).app ?_
                            simp only [Reps]
                            exact ⟨vx, [], rfl, Rep.keep (fun _ h => h) kp tk8 _ _ hd, rfl⟩
          · -- the end
            rintro H2 ⟨s2, ρi, acc, accv, dsr, rfl, eρ, r2, x2, hL2, hacc, nf, nos, hcomp, hcat⟩
            rw [List.drop_length] at hcomp
            simp only [compL, Option.some.injEq, Prod.mk.injEq] at hcomp
            obtain ⟨e5, e6⟩ := hcomp
            subst e5 e6
            rw [List.append_nil] at hcat
            subst hcat
            rw [← eρ] at q
            obtain ⟨os', ra, ha⟩ := SR.rest r1 x2 hv r2
            refine q (.ref L) { s2 with ρ := restS s1.ρ s2.ρ vs, os := os' } [L] rfl ra ((x1.trans x2).less ha) ⟨?_, by simp, fun a hm => ?_⟩ fun a hm => ?_
            · show TmR _ _ _ _ _ _ _
              simp only [TmR, RepO]
              exact ⟨L, accv, rfl, rfl, hL2, hacc⟩
            · rw [List.mem_singleton] at hm; subst hm
              exact ⟨nf, fr.2.1, fun z => nos (ha _ z)⟩
            · rw [List.mem_singleton] at hm; subst hm
              exact .inr (x1.back hL)
        · rw [if_neg hds] at q; exact q.elim
    · rw [if_neg hv] at q; exact q.elim
variable {elt iter : Expr} {ifs : List Expr} {scope : Scope} {own : List (Str × Nat)} {spos py : Pos} {it : Iv} {tgt : Tg} {test gel : Ev} {tv : List Nat}
theorem v_comp (hc : X.calm = true) (hN : X.N.Nodup) (hit : PIv X G W ios tg iter it) (ok : BlkOk X.N X.env.scope scope own)
    (hg : ∀ (s : Shared) (H : Hp) (C : Addr) (cl : List (Str × Addr)) (fp : List Addr), PGv (X.blk s H scope (compEnvC scope cl C X.env) fp) G ios tv tg tgt) (ht : ∀ (s : Shared) (H : Hp) (C : Addr) (cl : List (Str × Addr)) (fp : List Addr), PTs (X.blk s H scope (compEnvC scope cl C X.env) fp) ifs (tTest (tEv G W0 ios test)))
    (he : ∀ (s : Shared) (H : Hp) (C : Addr) (cl : List (Str × Addr)) (fp : List Addr), PEv (X.blk s H scope (compEnvC scope cl C X.env) fp) G W0 ios elt gel) (htv : ∀ i ∈ tv, i ∈ own.map (·.2)) (hio : ∀ v ∈ own.map (·.2), v ∉ ios) (hs : ∀ x, foldedSetIterable iter X.env x = pure x := by intro _; rfl) :
    PEv X G W ios (.ListComp elt [⟨tg, iter, ifs, 0⟩] scope pos) (eComp it (own.map (·.2)) tgt test gel) :=
  pe_imp (pe_lc hc hN hit ok hg ht he hs) fun _ _ _ q => comp_read rfl htv hio q
/-- y = [..] -/
theorem s_setLc {i : Nat} {y : Str} (hc : X.calm = true) (hN : X.N.Nodup) (hy : X.N[i]? = some y) (hyl : X.env.scope.names.lookup y = some .local) (hyo : i ∉ ios)
    (hsw : swapsWith (.ListComp elt [⟨tg, iter, ifs, 0⟩] scope pos) (some (.Name y py)) spos.line X.env = pure true) (hit : PIv X G W ios tg iter it) (ok : BlkOk X.N X.env.scope scope own)
    (hg : ∀ (s : Shared) (H : Hp) (C : Addr) (cl : List (Str × Addr)) (fp : List Addr), PGv (X.blk s H scope (compEnvC scope cl C X.env) fp) G ios tv tg tgt) (ht : ∀ (s : Shared) (H : Hp) (C : Addr) (cl : List (Str × Addr)) (fp : List Addr), PTs (X.blk s H scope (compEnvC scope cl C X.env) fp) ifs (tTest (tEv G W0 ios test)))
    (he : ∀ (s : Shared) (H : Hp) (C : Addr) (cl : List (Str × Addr)) (fp : List Addr), PEv (X.blk s H scope (compEnvC scope cl C X.env) fp) G W0 ios elt gel) (htv : ∀ i ∈ tv, i ∈ own.map (·.2)) (hio : ∀ v ∈ own.map (·.2), v ∉ ios) (hs : ∀ x, foldedSetIterable iter X.env x = pure x := by intro _; rfl) :
    PSv X G W ios (.Assign [.Name y py] (.ListComp elt [⟨tg, iter, ifs, 0⟩] scope pos) spos) (sSet i (eComp it (own.map (·.2)) tgt test gel)) :=
  ps_imp (ps_setLc hc hN hy hyl hsw hit ok hg ht he hs) fun D σ H q => by
    obtain ⟨pr, io, s, rfl, hi, r, q⟩ := of_tSv q
    refine comp_read rfl htv hio (tEv_of hi r (FlP.toF q fun t v s1 ot r1 x1 p1 f1 q1 => ?_))
    split at q1
    · rename_i hcc
      obtain ⟨os', r2, x2⟩ := r1.store x1 p1 f1 hcc.1 hcc.2 (by rw [hi]; exact hyo)
      exact q1 _ { s1 with ρ := s1.ρ.set i (some t), os := os' } rfl r2 x2
    · exact q1.elim
end
end PV

namespace PV
open PySem PySem.Spec L2

/-! ### what is owned is changed -/
section
variable {G : Gx} {W : WX} {pr : Addr → Prop} {io : List (Nat × V)} {σ : L2.St} {s s1 : Sx} {ios : List Nat} {Q : VK} {X : Cx} {a b c e : Expr} {pos p : Pos} {ga gb gc : Ev}
theorem Own.tk {H : Hp} {a : Addr} (h : Own H a) (o : HO) : Tk H (upd H a o) := by
  refine ⟨fun b vs e => ?_, fun b o' u e => ?_⟩
  · rw [upd_ne]
    · exact e
    · rintro rfl
      rcases h with ⟨_, h⟩ | ⟨_, h⟩ | ⟨_, h⟩ | ⟨_, _, _, h⟩ <;> rw [e] at h <;> cases h
  · rw [upd_ne]
    · exact e
    · rintro rfl
      rcases h with ⟨_, h⟩ | ⟨_, h⟩ | ⟨_, h⟩ | ⟨_, _, _, h⟩ <;> rw [e] at h <;> cases h
theorem SR.mut (r : SR G pr io σ s) {i : Nat} {t0 : Tm} (e : s.ρ[i]? = some (some t0)) : ∃ v o0, σ[i]? = some (some v) ∧ TmR G s.H s.fz pr t0 v o0 ∧ o0.Nodup ∧ (∀ a ∈ o0, a ∈ s.os) ∧
    ∀ (ot : List Addr) (a : Addr) (o' : HO) (t1 : Tm) (o1 : List Addr), a ∈ o0 → (∀ b ∈ ot, ¬ s.fz b ∧ ¬ pr b ∧ b ∉ s.os) → o1.Nodup → (∀ b ∈ o1, b ∈ o0 ∨ b ∈ ot) → TmR G (upd s.H a o') s.fz pr t1 v o1 →
      ∃ os', SR G pr io σ { s with H := upd s.H a o', ρ := s.ρ.set i (some t1), os := os' } ∧ (∀ b ∈ os', b ∈ s.os ∨ b ∈ ot) := by
  obtain ⟨v, o1, o2, o3, e1, e2, h, hput⟩ := Sl.get r.sl e
  have nd := r.nd
  rw [e2, List.nodup_append, List.nodup_append] at nd
  have inos : ∀ b, (b ∈ o1 ∨ b ∈ o2 ∨ b ∈ o3) → b ∈ s.os := fun b h => by rw [e2]; rcases h with h | h | h <;> simp [h]
  refine ⟨v, o2, e1, h, nd.2.1.1, fun a ha => inos a (.inr (.inl ha)), fun ot a o' t1 q1 ha hot hq1 hsub ht => ?_⟩
  have hos : a ∈ s.os := inos a (.inr (.inl ha))
  have tk : Tk s.H (upd s.H a o') := (r.own a hos).tk o'
  have hs := hput t1 (upd s.H a o') s.fz q1 ht (fun b u hb eb => by
    rw [upd_ne]
    · exact eb
    · rintro rfl
      rcases hb with hb | hb | hb | hb
      · exact nd.2.2 b hb b (List.mem_append_left _ ha) rfl
      · exact nd.2.1.2.2 b ha b hb rfl
      · exact (r.sep b hos).1 hb
      · exact (r.sep b hos).2 hb) (fun _ h => h) tk
  have split : ∀ b ∈ o1 ++ (q1 ++ o3), (b ∈ o1 ∨ b ∈ o3) ∨ b ∈ q1 := fun b hb => by simp only [List.mem_append] at hb; grind
  refine ⟨o1 ++ (q1 ++ o3), ⟨hs, ?_, fun b hb => ?_, fun b hb => ?_, r.iov⟩, fun b hb => ?_⟩
  · show (o1 ++ (q1 ++ o3)).Nodup
    rw [List.nodup_append, List.nodup_append]
    refine ⟨nd.1, ⟨hq1, nd.2.1.2.1, fun b hb c hc z => ?_⟩, fun b hb c hc z => ?_⟩
    · subst z
      rcases hsub b hb with h | h
      · exact nd.2.1.2.2 b h b hc rfl
      · exact (hot b h).2.2 (inos b (.inr (.inr hc)))
    · subst z
      rcases List.mem_append.mp hc with hc | hc
      · rcases hsub b hc with h | h
        · exact nd.2.2 b hb b (List.mem_append_left _ h) rfl
        · exact (hot b h).2.2 (inos b (.inl hb))
      · exact nd.2.2 b hb b (List.mem_append_right _ hc) rfl
  · rcases split b hb with (h | h) | h
    · exact r.sep b (inos b (.inl h))
    · exact r.sep b (inos b (.inr (.inr h)))
    · rcases hsub b h with h | h
      · exact r.sep b (inos b (.inr (.inl h)))
      · exact ⟨(hot b h).1, (hot b h).2.1⟩
  · show upd _ _ _ _ ≠ none
    by_cases z : b = a
    · subst z; rw [upd_same]; simp
    · rw [upd_ne z]; exact r.dom b hb
  · rcases split b hb with (h | h) | h
    · exact .inl (inos b (.inl h))
    · exact .inl (inos b (.inr (.inr h)))
    · exact (hsub b h).imp (fun z => inos b (.inr (.inl z))) id
theorem Ext.mut (x : Ext s s1) {a : Addr} (own : Own s1.H a) (ha : a ∈ s1.os) {os' ot : List Addr} (h : ∀ b ∈ os', b ∈ s1.os ∨ b ∈ ot) (f : Frs s ot) (o' : HO) (ρ : Ss) : Ext s { s1 with H := upd s1.H a o', ρ := ρ, os := os' } := by
  refine ⟨fun b o e n => ?_, fun b hb => ?_, x.tk.trans (own.tk o'), x.fz, x.fzo, fun b hb => ?_⟩
  · show upd _ _ _ _ = _
    rw [upd_ne]
    · exact x.keep b o e n
    · rintro rfl
      rcases x.oso b ha with z | z
      · exact n z
      · rw [e] at z; cases z
  · show upd _ _ _ _ ≠ none
    by_cases z : b = a
    · subst z; rw [upd_same]; simp
    · rw [upd_ne z]; exact x.dom b hb
  · rcases h b hb with h | h
    · exact x.oso b h
    · exact f b h
theorem Reps.updO {H : Hp} {P : Addr → Prop} {ds : List D} {vs : List V} {a : Addr} (h : Reps G H P ds vs) (own : Own H a) (hP : ¬ P a) (o : HO) : Reps G (upd H a o) P ds vs :=
  Reps.keep (fun _ h => h) (fun b u p e => by rw [upd_ne (by rintro rfl; exact hP p)]; exact e) (own.tk o) _ _ h
theorem TmRs.updO {H : Hp} {fz : Addr → Prop} {ts : List Tm} {vs : List V} {o1 : List Addr} {a : Addr} (h : TmRs G H fz pr ts vs o1) (own : Own H a) (h1 : ¬ fz a) (h2 : ¬ pr a) (h3 : a ∉ o1) (o : HO) : TmRs G (upd H a o) fz pr ts vs o1 :=
  TmRs.keep (fun _ h => h) (fun _ h => .inr h) (own.tk o) _ _ _ (fun b u p e => by
    rw [upd_ne]
    · exact e
    · rintro rfl
      rcases p with p | p | p
      · exact h3 p
      · exact h1 p
      · exact h2 p) h
theorem TmR.updO {H : Hp} {fz : Addr → Prop} {t : Tm} {v : V} {o1 : List Addr} {a : Addr} (h : TmR G H fz pr t v o1) (own : Own H a) (h1 : ¬ fz a) (h2 : ¬ pr a) (h3 : a ∉ o1) (o : HO) : TmR G (upd H a o) fz pr t v o1 :=
  TmR.keep (fun _ h => h) (fun _ h => .inr h) (own.tk o) _ _ _ (fun b u p e => by
    rw [upd_ne]
    · exact e
    · rintro rfl
      rcases p with p | p | p
      · exact h3 p
      · exact h1 p
      · exact h2 p) h

/-! ### methods of a list that a name owns -/
def isLs (ρ : Ss) (i : Nat) : Bool := match ρ[i]? with
  | some (some (.v .O (.lst _))) => true
  | _ => false
/-- xs.m(e, ..): op gives the answer and the list behind -/
def eLm (op : List D → List D → Option (D × List D)) (i : Nat) (gs : Ss → OuL) : Ev := fun ρ => if isLs ρ i = true then (gs ρ).bind fun ts ρ1 => match ρ1[i]? with
  | some (some (.v .O (.lst xs))) => match frzs ts with
    | some ds => match op xs ds with
      | some (x, xs') => if xs'.length ≤ sizeLine then .ok (.v .F x) (ρ1.set i (some (.v .O (.lst xs')))) else .no
      | none => .no
    | none => .no
  | _ => .no
  else .no
/-- what is to be shown of a list's method -/
def LmOk (G : Gx) (op : List D → List D → Option (D × List D)) (r : V → List V → Hp → VK → Prop) : Prop := ∀ (H : Hp) (P : Addr → Prop) (l : Addr) (xs ds : List D) (xv dv : List V) (x : D) (xs' : List D) (Q : VK), H l = some (.lst xv) → Reps G H P xs xv → Reps G H P ds dv → op xs ds = some (x, xs') → xs'.length ≤ sizeLine →
  (∀ v xv', (∀ (H' : Hp) (P' : Addr → Prop), Reps G H' P' xs xv → Reps G H' P' ds dv → Rep G H' P' x v ∧ Reps G H' P' xs' xv') → Q v (upd H l (.lst xv'))) → r (.ref l) dv H Q
def opApp : List D → List D → Option (D × List D) := fun xs ds => match ds with
  | [d] => some (.non, xs ++ [d])
  | _ => none
def opPop : List D → List D → Option (D × List D) := fun xs ds => match ds, xs[xs.length - 1]? with
  | [], some x => some (x, xs.dropLast)
  | _, _ => none
def opPopAt : List D → List D → Option (D × List D) := fun xs ds => match ds with
  | [.int i] => match seqIndex? i xs.length with
    | some k => match xs[k]? with
      | some x => if -(2 ^ 63) ≤ i ∧ i < 2 ^ 63 then some (x, xs.eraseIdx k) else none
      | none => none
    | none => none
  | _ => none
def opRevL : List D → List D → Option (D × List D) := fun xs ds => match ds with
  | [] => some (.non, xs.reverse)
  | _ => none
def opClear : List D → List D → Option (D × List D) := fun xs ds => match ds with
  | [] => some (.non, [])
  | _ => none
theorem Reps.one {H : Hp} {P : Addr → Prop} {d : D} {dv : List V} (h : Reps G H P [d] dv) : ∃ v, dv = [v] ∧ Rep G H P d v := by
  simp only [Reps] at h
  obtain ⟨v, r, rfl, h, rfl⟩ := h
  exact ⟨v, rfl, h⟩
theorem Reps.dropLast {H : Hp} {P : Addr → Prop} : ∀ {ds : List D} {vs : List V}, Reps G H P ds vs → Reps G H P ds.dropLast vs.dropLast
  | [], vs, h => by simp only [Reps] at h; subst h; simp [Reps]
  | [d], vs, h => by obtain ⟨v, rfl, h⟩ := h.one; simp [Reps]
  | d :: d2 :: ds, vs, h => by
    simp only [Reps] at h
    obtain ⟨v, r, rfl, h1, v2, r2, rfl, h2, h3⟩ := h
    have ih := Reps.dropLast (ds := d2 :: ds) (vs := v2 :: r2) (by simp only [Reps]; exact ⟨v2, r2, rfl, h2, h3⟩)
    simp only [List.dropLast_cons₂, Reps]
    exact ⟨v, _, rfl, h1, ih⟩
theorem Reps.erase {H : Hp} {P : Addr → Prop} : ∀ {ds : List D} {vs : List V} (k : Nat), Reps G H P ds vs → Reps G H P (ds.eraseIdx k) (vs.eraseIdx k)
  | [], vs, k, h => by simp only [Reps] at h; subst h; simp [Reps]
  | d :: ds, vs, 0, h => by simp only [Reps] at h; obtain ⟨v, r, rfl, h1, h2⟩ := h; exact h2
  | d :: ds, vs, k + 1, h => by
    simp only [Reps] at h
    obtain ⟨v, r, rfl, h1, h2⟩ := h
    simp only [List.eraseIdx_cons_succ, Reps]
    exact ⟨v, _, rfl, h1, Reps.erase k h2⟩
theorem Reps.setI {H : Hp} {P : Addr → Prop} {d : D} {v : V} (hd : Rep G H P d v) : ∀ {ds : List D} {vs : List V} (k : Nat), Reps G H P ds vs → Reps G H P (ds.set k d) (vs.set k v)
  | [], vs, k, h => by simp only [Reps] at h; subst h; simp [Reps]
  | d0 :: ds, vs, 0, h => by simp only [Reps] at h; obtain ⟨v0, r, rfl, h1, h2⟩ := h; simp only [List.set_cons_zero, Reps]; exact ⟨_, _, rfl, hd, h2⟩
  | d0 :: ds, vs, k + 1, h => by
    simp only [Reps] at h
    obtain ⟨v0, r, rfl, h1, h2⟩ := h
    simp only [List.set_cons_succ, Reps]
    exact ⟨v0, _, rfl, h1, Reps.setI hd k h2⟩
theorem lm_app : LmOk G opApp rAppend := fun H P l xs ds xv dv x xs' Q hl hx hd e hz q => by
  unfold opApp at e
  split at e
  · cases e
    obtain ⟨v, rfl, hv⟩ := hd.one
    refine ⟨l, xv, v, rfl, rfl, hl, ?_, q .non _ fun H' P' k1 k2 => ⟨by simp only [Rep], k1.app k2⟩⟩
    rw [← hx.len]
    rw [List.length_append, List.length_singleton] at hz
    omega
  · cases e
theorem lm_popAt : LmOk G opPopAt rPopAt := fun H P l xs ds xv dv x xs' Q hl hx hd e hz q => by
  unfold opPopAt at e
  split at e
  · rename_i i
    split at e
    · rename_i k ek
      split at e
      · rename_i y ey
        split at e
        · rename_i hi
          cases e
          obtain ⟨w, rfl, hw⟩ := hd.one
          simp only [Rep] at hw
          subst hw
          obtain ⟨v, hv, rv⟩ := hx.get ey
          refine ⟨l, xv, i, k, v, rfl, rfl, hl, hi.1, hi.2, by rw [← hx.len]; exact ek, hv, q v _ fun H' P' k1 k2 => ⟨?_, k1.erase k⟩⟩
          obtain ⟨v', hv', rv'⟩ := k1.get ey
          rw [hv] at hv'
          cases hv'
          exact rv'
        · cases e
      · cases e
    · cases e
  · cases e
/-- the list behind the name i -/
theorem ls_at (r : SR G pr io σ s) {i : Nat} {v : V} (hv : σ[i]? = some (some v)) (h : isLs s.ρ i = true) : ∃ l xv, v = .ref l ∧ s.H l = some (.lst xv) := by
  unfold isLs at h
  split at h
  · rename_i xs e
    obtain ⟨o, ht, _⟩ := r.at e hv
    simp only [TmR, RepO] at ht
    obtain ⟨a, vs, rfl, rfl, h1, _⟩ := ht
    exact ⟨a, vs, rfl, h1⟩
  · cases h
theorem lm_end {op : List D → List D → Option (D × List D)} {rr : V → List V → Hp → VK → Prop} {gs : Ss → OuL} {i : Nat} (h : LmOk G op rr) {l : Addr} {v : V} {ts : List Tm} {vs : List V} {ot : List Addr} (hv : σ[i]? = some (some v))
    (r1 : SR G pr io σ s1) (x1 : Ext s s1) (p1 : Tps G pr σ s1 ts vs ot) (f1 : Frs s ot)
    (q : OuP G W pr io σ s (match s1.ρ[i]? with
      | some (some (.v .O (.lst xs))) => match frzs ts with
        | some ds => match op xs ds with
          | some (x, xs') => if xs'.length ≤ sizeLine then .ok (.v .F x) (s1.ρ.set i (some (.v .O (.lst xs')))) else .no
          | none => .no
        | none => .no
      | _ => .no) Q) : rr v vs s1.H Q := by
  split at q
  · rename_i xs e
    cases e1 : frzs ts with
    | none => rw [e1] at q; exact q.elim
    | some ds =>
      rw [e1] at q
      dsimp only at q
      cases e2 : op xs ds with
      | none => rw [e2] at q; exact q.elim
      | some w =>
        obtain ⟨x, xs'⟩ := w
        rw [e2] at q
        dsimp only at q
        split at q
        · rename_i hz
          have hd := p1.rel.frz e1
          have r2 := r1.frzO (ot := ot) p1.rel.own p1.sep
          have x2 := x1.frzO f1
          obtain ⟨v', o0, hv', ht, nd0, sub0, mu⟩ := r2.mut (i := i) e
          rw [hv] at hv'
          cases hv'
          simp only [TmR, RepO] at ht
          obtain ⟨a, xv, rfl, rfl, hl, hxs⟩ := ht
          have hos : a ∈ s1.os := sub0 a (by simp)
          have own := r2.own a (sub0 a (by simp))
          have hsep := r2.sep a (sub0 a (by simp))
          refine h s1.H (fun a => s1.fz a ∨ a ∈ ot) a xs ds xv vs x xs' Q hl hxs hd e2 hz fun v2 xv' k => ?_
          obtain ⟨k1, k2⟩ := k (upd s1.H a (.lst xv')) (fun a => s1.fz a ∨ a ∈ ot) (hxs.updO own hsep.1 _) (hd.updO own hsep.1 _)
          obtain ⟨os', r3, hos'⟩ := mu [] a (.lst xv') (.v .O (.lst xs')) [a] (by simp) (fun b hb => by cases hb) (by simp) (fun b hb => .inl hb) (by simp only [TmR, RepO]; exact ⟨a, xv', rfl, rfl, upd_same, k2⟩)
          exact q v2 _ [] rfl r3 (x2.mut own (sub0 a (by simp)) hos' Frs.nil _ _) ⟨⟨rfl, k1⟩, .nil, fun a ha => by cases ha⟩ Frs.nil
        · exact q.elim
  · exact q.elim
variable {o : Expr} {es : List Expr} {gs : Ss → OuL} {i : Nat} {x name : Str} {apos cpos : Pos} {id : String} {rr : V → List V → Hp → VK → Prop} {op : List D → List D → Option (D × List D)}
def isAt (i : Nat) (ρ : Ss) : Prop := True
theorem v_lm (h : LmOk G op rr) (slot : Slot "list" name id) (hty : typeOf (.builtin id) = pure (.type "method_descriptor")) (hm : MtR X id rr) (hi : X.N[i]? = some x) (hx : Vis X.env.scope x) (hdn : (x == ("__debug__" : Str)) = false) (hcn : (x == ("__classdict__" : Str)) = false) (ha : PAv X G W ios (e :: es) gs)
    (hbase : attributeBase (.Name x p) name X.env (eval (.Name x p) X.env) = eval (.Name x p) X.env := by rfl)
    (hfew : ((backTo cpos (starEach (e :: es) X.env)).all (fun x => !x.1) && (backToKw cpos (keywordEach [] X.env)).all (fun x => x.1.isSome)
      && decide ((e :: es).length + ([] : List Keyword).length + (if ([] : List Keyword).isEmpty then 0 else 1) < 30)) = true := by rfl)
    (hline : (apos.endLine == cpos.line) = true := by rfl) (hs : starEach (e :: es) X.env = (false, eval e X.env) :: starEach es X.env := by rfl) (hplain : (backTo cpos (starEach es X.env)).any (·.1) = false := by rfl) :
    PEv X G W ios (.Call (.Attribute (.Name x p) name apos) (e :: es) [] cpos) (eLm op i gs) :=
  pe_imp (pe_bm PySem.F.plainAttrs_list slot hty hm (pe_var hi hx hdn hcn) ha hbase hfew hline hs hplain) fun σ H Q q => by
    obtain ⟨pr, io, s, rfl, hi, r, q⟩ := of_tEv q
    unfold eLm at q
    split at q
    · rename_i hl
      cases hv : σ[i]? with
      | none =>
        exfalso
        unfold isLs at hl
        split at hl
        · rename_i e; obtain ⟨_, _, _, _, k, _⟩ := Sl.get r.sl e; rw [hv] at k; cases k
        · cases hl
      | some w =>
        cases w with
        | none =>
          exfalso
          unfold isLs at hl
          split at hl
          · rename_i e; obtain ⟨_, _, _, _, k, _⟩ := Sl.get r.sl e; rw [hv] at k; cases k
          · cases hl
        | some v =>
          obtain ⟨l, xv, rfl, hH⟩ := ls_at r hv hl
          refine ⟨.ref l, hv, .inl ⟨rfl, xv, SqL.of hH⟩, tEvs_of hi r (OuLP.bind0 q fun ts vs s1 ot r1 x1 p1 f1 q1 => ?_)⟩
          exact lm_end (gs := gs) (l := l) h hv r1 x1 p1 f1 q1
    · exact q.elim

theorem lm_cell (r : SR G pr io σ s) (hl : isLs s.ρ i = true) : ∃ l xv, σ[i]? = some (some (.ref l)) ∧ s.H l = some (.lst xv) := by
  cases h : s.ρ[i]? with
  | none => unfold isLs at hl; rw [h] at hl; cases hl
  | some o =>
    cases o with
    | none => unfold isLs at hl; rw [h] at hl; cases hl
    | some t =>
      obtain ⟨v, _, _, _, k, _⟩ := Sl.get r.sl h
      obtain ⟨l, xv, rfl, hH⟩ := ls_at r k hl
      exact ⟨l, xv, k, hH⟩
/-! ### xs[i] = v -/
def tgSub (i : Nat) (gi : Ev) : Tg := fun t ρ => if isLs ρ i = true then match gi ρ with
  | .ok u ρ2 => match ρ2[i]? with
    | some (some (.v .O (.lst xs))) => match derT ρ2 u with
      | some (.v _ (.int k)) => match frz t with
        | some d => match ixN xs.length k with
          | some j => some (ρ2.set i (some (.v .O (.lst (xs.set j d)))))
          | none => none
        | none => none
      | _ => none
    | _ => none
  | _ => none
  else none
theorem TmR.intv {H : Hp} {fz : Addr → Prop} {k : Kd} {n : Int} {v : V} {o : List Addr} (h : TmR G H fz pr (.v k (.int n)) v o) : v = .int n := by
  cases k <;> simp only [TmR, RepO, Rep] at h <;> exact h.2
theorem g_sub {i : Nat} {x : Str} {ie : Expr} {gi : Ev} (hx : X.N[i]? = some x) (hv : Vis X.env.scope x) (hdn : (x == ("__debug__" : Str)) = false) (hcn : (x == ("__classdict__" : Str)) = false) (hi : PEv X G W ios ie gi)
    (ha : ∀ v, assign (.Subscript (.Name x p) ie pos) X.env v = (do
      let ov ← holding [v] (eval (.Name x p) X.env)
      let iv ← holding [v, ov] (eval ie X.env)
      standAt pos
      holding [v, ov, iv] (setItem ov iv v)
      release [v, ov, iv] []) := by intro _; rfl) : PGv X G ios [] (.Subscript (.Name x p) ie pos) (tgSub i gi) :=
  pg_imp (pg_sub (pe_var hx hv hdn hcn) hi set_list ha) fun v σ H Q q => by
    obtain ⟨pr, io, s0, s, t, ot, rfl, hi, r, x, p, f, q⟩ := q
    unfold tgSub at q
    by_cases hl : isLs s.ρ i = true
    · rw [if_pos hl] at q
      obtain ⟨l, xv, hv, hH⟩ := lm_cell r hl
      refine ⟨.ref l, hv, tEv_of hi r ?_⟩
      cases eg : gi s.ρ with
      | no => rw [eg] at q; exact q.elim
      | ex e ρ => rw [eg] at q; exact q.elim
      | ok u ρ2 =>
        rw [eg] at q
        intro w s2 ow e2 r2 x2 pw fw
        subst e2
        dsimp only at q
        have p2 := p.on r x2
        split at q
        · rename_i ρ' heq
          split at heq
          · rename_i xs e3
            split at heq
            · rename_i k n e4
              split at heq
              · rename_i d e5
                split at heq
                · rename_i j e6
                  cases heq
                  obtain ⟨o4, h4⟩ := pw.der r2 e4
                  have ew := h4.intv
                  subst ew
                  have hnl : ∀ i, t ≠ .loc i := fun i z => by subst z; simp [PV.frz] at e5
                  have r3 := r2.frzO (ot := ot) p2.rel.own p2.sep
                  have x3 := (x.trans x2).frzO f
                  have hd : Rep G s2.H (fun a => s2.fz a ∨ a ∈ ot) d v := TmR.frz _ _ _ _ (tm_of p2.rel hnl) e5
                  obtain ⟨v', o0, hv', ht, nd0, sub0, mu⟩ := r3.mut (i := i) e3
                  rw [hv] at hv'
                  cases hv'
                  simp only [TmR, RepO] at ht
                  obtain ⟨a, yv, e7, rfl, hl2, hxs⟩ := ht
                  cases e7
                  have own := r3.own l (sub0 l (by simp))
                  have hsep := r3.sep l (sub0 l (by simp))
                  refine ⟨l, yv, n, j, rfl, rfl, hl2, by rw [← hxs.len]; exact e6, ?_⟩
                  have k2 : Reps G (upd s2.H l (.lst (yv.set j v))) (fun a => s2.fz a ∨ a ∈ ot) (xs.set j d) (yv.set j v) := (Reps.setI hd j hxs).updO own hsep.1 _
                  obtain ⟨os', r4, hos'⟩ := mu [] l (.lst (yv.set j v)) (.v .O (.lst (xs.set j d))) [l] (by simp) (fun b hb => by cases hb) (by simp) (fun b hb => .inl hb) (by simp only [TmR, RepO]; exact ⟨l, _, rfl, rfl, upd_same, k2⟩)
                  exact q σ _ rfl r4 (x3.mut own (sub0 l (by simp)) hos' Frs.nil _ _) ⟨rfl, fun _ _ => rfl⟩
                · cases heq
              · cases heq
            · cases heq
          · cases heq
        · exact q.elim
    · rw [if_neg hl] at q; exact q.elim

/-! ### name op= e -/
def sAug (i : Nat) (f : Tm → Tm → Option Tm) (g : Ev) : Sm := fun ρ => match ρ[i]? with
  | some (some (.v .F d)) => (g ρ).toF fun u ρ1 => match derT ρ1 u with
    | some u1 => match f (.v .F d) u1 with
      | some r => if isLoc r = false ∧ i < ρ1.length then .nx (ρ1.set i (some r)) else .no
      | none => .no
    | none => .no
  | _ => .no
theorem s_aug {i : Nat} {x : Str} {op : Operator} {f : Tm → Tm → Option Tm} {rd : TIp} {pos' : Pos} (hN : X.N.Nodup) (hio : i ∉ ios) (ho : PIp X op rd) (hop : Op2 G (fun _ _ _ _ => False) f rd) (ha : PEv X G W ios a ga) (hi : X.N[i]? = some x := by rfl) (hx : Loc X.env.scope x := by first | exact Or.inl rfl | exact Or.inr rfl)
    (hf : X.fn x = true ∨ X.env.scope.names.lookup x = some .local := by first | exact .inl rfl | exact .inr rfl | assumption) : PSv X G W ios (.AugAssign (.Name x pos') op a pos) (sAug i f ga) :=
  ps_imp (ps_aug hN hi hx ha ho hf) fun D σ H q => by
    obtain ⟨pr, io, s, rfl, hi, r, q⟩ := of_tSv q
    unfold sAug at q
    split at q
    · rename_i d e
      obtain ⟨v, _, _, _, hv, _, ht, _⟩ := Sl.get r.sl e
      have hd : Rep G s.H s.fz d v := by simp only [TmR] at ht; exact ht.2
      refine ⟨v, hv, tEv_of hi r (FlP.toF q fun u w s1 ot r1 x1 p1 f1 q1 => ?_)⟩
      have pd : Tp G pr σ s1 (.v .F d) v [] := Tp.on (⟨⟨rfl, hd⟩, .nil, fun a ha => by cases ha⟩ : Tp G pr σ s (.v .F d) v []) r x1
      cases e1 : derT s1.ρ u with
      | none => rw [e1] at q1; exact q1.elim
      | some u1 =>
        rw [e1] at q1
        dsimp only at q1
        cases e2 : f (.v .F d) u1 with
        | none => rw [e2] at q1; exact q1.elim
        | some rr =>
          rw [e2] at q1
          dsimp only at q1
          by_cases hc : isLoc rr = false ∧ i < s1.ρ.length
          · rw [if_pos hc] at q1
            obtain ⟨o, hu⟩ := p1.der r1 e1
            refine hop pr io σ s1 v w _ u1 rr _ o _ r1 pd.rel hu e2 ?_
            intro z s2 oz e3 r2 x2 pz fz2
            obtain ⟨os', r3, x3⟩ := r2.store x2 pz fz2 hc.1 (by rw [e3]; exact hc.2) (by rw [hi]; exact hio)
            exact q1 _ { s2 with ρ := s2.ρ.set i (some rr), os := os' } (by rw [e3]) r3 (x1.trans x3)
          · rw [if_neg hc] at q1; exact q1.elim
    · exact q.elim
end
end PV

namespace PV
open PySem PySem.Spec L2

/-! ### objects -/
/-- a class whose objects bear just the attributes ns -/
structure ClsF (K : PySem.W.Frag) (C : Addr) (ns : List Str) : Prop where
  c : Cls K C
  nd : ns.Nodup
  na : ∀ f ∈ ns, NoAttr K C f
  sm : ns.length < 1000
def setAt {α : Type} : List α → Nat → α → List α
  | [], _, x => [x]
  | _ :: as, 0, x => x :: as
  | a :: as, j + 1, x => a :: setAt as j x
theorem zip_at {α : Type} {f : Str} {v : α} : ∀ {ns : List Str} {vs : List α} {j : Nat}, ns.Nodup → ns[j]? = some f → vs[j]? = some v → (ns.zip vs).lookup f = some v
  | [], vs, j, nd, h, hv => by simp at h
  | n :: ns, [], j, nd, h, hv => by simp at hv
  | n :: ns, w :: vs, 0, nd, h, hv => by
    have e1 : n = f := by simpa using h
    have e2 : w = v := by simpa using hv
    subst e1 e2
    simp [List.lookup]
  | n :: ns, w :: vs, j + 1, nd, h, hv => by
    rw [List.nodup_cons] at nd
    have h' : ns[j]? = some f := by simpa using h
    have hne : f ≠ n := fun z => nd.1 (by rw [← z]; exact List.mem_of_getElem? h')
    simp only [List.zip_cons_cons, List.lookup, beq_eq_false_iff_ne.mpr hne]
    exact zip_at nd.2 h' (by simpa using hv)
theorem zip_put {f : Str} {y : V} : ∀ {ns : List Str} {vs : List V} {j : Nat}, ns.Nodup → ns[j]? = some f → j ≤ vs.length → putF f y (ns.zip vs) = ns.zip (setAt vs j y)
  | [], vs, j, nd, h, hl => by simp at h
  | n :: ns, [], j, nd, h, hl => by
    have : j = 0 := by simpa using hl
    subst this
    have e1 : n = f := by simpa using h
    subst e1
    simp [putF, setAt]
  | n :: ns, w :: vs, 0, nd, h, hl => by
    have e1 : n = f := by simpa using h
    subst e1
    simp [putF, setAt]
  | n :: ns, w :: vs, j + 1, nd, h, hl => by
    rw [List.nodup_cons] at nd
    have h' : ns[j]? = some f := by simpa using h
    have hne : n ≠ f := fun z => nd.1 (by rw [z]; exact List.mem_of_getElem? h')
    simp only [List.zip_cons_cons, putF, if_neg hne, setAt]
    rw [zip_put nd.2 h' (by simpa using hl)]
theorem setAt_len {α : Type} (x : α) : ∀ (as : List α) (j : Nat), (setAt as j x).length = if j < as.length then as.length else as.length + 1
  | [], j => by simp [setAt]
  | a :: as, 0 => by simp [setAt]
  | a :: as, j + 1 => by
    simp only [setAt, List.length_cons, setAt_len x as j, Nat.add_lt_add_iff_right]
    split <;> rfl
section
variable {G : Gx} {W : WX} {pr : Addr → Prop} {io : List (Nat × V)} {σ : L2.St} {s s1 : Sx} {ios : List Nat} {Q : VK} {X : Cx} {a b e o value : Expr} {pos p pos' tpos : Pos} {ga gb gc : Ev} {c : Nat} {f : Str}
theorem TmRs.get {H : Hp} {fz : Addr → Prop} : ∀ {ts : List Tm} {vs : List V} {os : List Addr} {j : Nat} {t : Tm}, TmRs G H fz pr ts vs os → ts[j]? = some t → ∃ v o, vs[j]? = some v ∧ TmR G H fz pr t v o ∧ ∀ a ∈ o, a ∈ os
  | [], vs, os, j, t, h, e => by simp at e
  | t0 :: ts, vs, os, 0, t, h, e => by
    simp only [TmRs] at h
    obtain ⟨v, r, o1, o2, rfl, rfl, h1, h2⟩ := h
    have e' : t0 = t := by simpa using e
    subst e'
    exact ⟨v, o1, rfl, h1, fun a ha => List.mem_append_left _ ha⟩
  | t0 :: ts, vs, os, j + 1, t, h, e => by
    simp only [TmRs] at h
    obtain ⟨v, r, o1, o2, rfl, rfl, h1, h2⟩ := h
    obtain ⟨w, o, e1, e2, e3⟩ := TmRs.get h2 (j := j) (t := t) (by simpa using e)
    exact ⟨w, o, by simpa using e1, e2, fun a ha => List.mem_append_right _ (e3 a ha)⟩
theorem TmRs.setAt {H : Hp} {fz : Addr → Prop} {t : Tm} {v : V} {ot : List Addr} (ht : TmR G H fz pr t v ot) (ndt : ot.Nodup) : ∀ {ts : List Tm} {vs : List V} {os : List Addr} (j : Nat), TmRs G H fz pr ts vs os → os.Nodup → (∀ a ∈ os, a ∉ ot) →
    ∃ o, TmRs G H fz pr (PV.setAt ts j t) (PV.setAt vs j v) o ∧ o.Nodup ∧ ∀ a ∈ o, a ∈ os ∨ a ∈ ot
  | [], vs, os, j, h, nd, dis => by
    simp only [TmRs] at h
    obtain ⟨rfl, rfl⟩ := h
    refine ⟨ot, ?_, ndt, fun a ha => .inr ha⟩
    simp only [PV.setAt, TmRs]
    exact ⟨v, [], ot, [], rfl, by simp, ht, rfl, rfl⟩
  | t0 :: ts, vs, os, 0, h, nd, dis => by
    simp only [TmRs] at h
    obtain ⟨v0, r, o1, o2, rfl, rfl, h1, h2⟩ := h
    rw [List.nodup_append] at nd
    refine ⟨ot ++ o2, ?_, ?_, fun a ha => ?_⟩
    · simp only [PV.setAt, TmRs]
      exact ⟨v, r, ot, o2, rfl, rfl, ht, h2⟩
    · rw [List.nodup_append]
      exact ⟨ndt, nd.2.1, fun a ha b hb z => by subst z; exact dis a (List.mem_append_right _ hb) ha⟩
    · rcases List.mem_append.mp ha with h | h
      · exact .inr h
      · exact .inl (List.mem_append_right _ h)
  | t0 :: ts, vs, os, j + 1, h, nd, dis => by
    simp only [TmRs] at h
    obtain ⟨v0, r, o1, o2, rfl, rfl, h1, h2⟩ := h
    rw [List.nodup_append] at nd
    obtain ⟨o, k1, k2, k3⟩ := TmRs.setAt ht ndt j h2 nd.2.1 fun a ha => dis a (List.mem_append_right _ ha)
    refine ⟨o1 ++ o, ?_, ?_, fun a ha => ?_⟩
    · simp only [PV.setAt, TmRs]
      exact ⟨v0, _, o1, o, rfl, rfl, h1, k1⟩
    · rw [List.nodup_append]
      refine ⟨nd.1, k2, fun a ha b hb z => ?_⟩
      subst z
      rcases k3 a hb with h | h
      · exact nd.2.2 a ha a h rfl
      · exact dis a (List.mem_append_left _ ha) h
    · rcases List.mem_append.mp ha with h | h
      · exact .inl (List.mem_append_left _ h)
      · exact (k3 a h).imp (List.mem_append_right _) id
/-- e.f -/
def fldT (c j : Nat) : Tm → Option Tm
  | .ob c' ts => if c' = c then match ts[j]? with
    | some (.v .F d) => some (.v .F d)
    | _ => none
    else none
  | .v k (.ins c' xs) => if c' = c then (xs[j]?).map (subK k) else none
  | _ => none
def eFld (c j : Nat) : Ev → Ev := eOp1 (fldT c j)
theorem insK {k : Kd} {xs : List D} {x : V} {ox : List Addr} {j : Nat} {d : D} (h : TmR G s.H s.fz pr (.v k (.ins c xs)) x ox) (e : xs[j]? = some d) : ∃ a dx vs v, x = .ref a ∧ s.H a = some (.ins (G.ca c) dx ((G.cn c).zip vs)) ∧ vs.length ≤ (G.cn c).length ∧ vs[j]? = some v ∧ TmR G s.H s.fz pr (subK k d) v [] := by
  cases k <;> simp only [TmR, Rep, RepO] at h
  · obtain ⟨_, a, dx, vs, rfl, _, h1, hl, h2⟩ := h
    obtain ⟨v, hv, rv⟩ := h2.get e
    exact ⟨a, dx, vs, v, rfl, h1, hl, hv, by simp only [subK, TmR]; exact ⟨trivial, rv⟩⟩
  · obtain ⟨_, a, dx, vs, rfl, _, h1, hl, h2⟩ := h
    obtain ⟨v, hv, rv⟩ := h2.get e
    exact ⟨a, dx, vs, v, rfl, h1, hl, hv, by simp only [subK, TmR]; exact ⟨trivial, rv⟩⟩
  · obtain ⟨a, dx, vs, rfl, _, h1, hl, h2⟩ := h
    obtain ⟨v, hv, rv⟩ := h2.get e
    exact ⟨a, dx, vs, v, rfl, h1, hl, hv, by simp only [subK, TmR]; exact ⟨trivial, rv⟩⟩
theorem isub (k : Kd) (d : D) : isLoc (subK k d) = false := by cases k <;> rfl
theorem op1_fld {j : Nat} (cf : ClsF X.K (G.ca c) (G.cn c)) (hj : (G.cn c)[j]? = some f) : Op1 G W (fldT c j) (fun x H Q => ∃ a C dx fs v, x = .ref a ∧ H a = some (.ins C dx fs) ∧ Cls X.K C ∧ NoAttr X.K C f ∧ fs.lookup f = some v ∧ Q v H) := by
  intro pr io σ s x tx t ox Q r hx e q
  have hm : f ∈ G.cn c := List.mem_of_getElem? hj
  unfold fldT at e
  split at e
  · rename_i c' ts
    by_cases hc : c' = c
    · subst hc
      rw [if_pos rfl] at e
      cases et : ts[j]? with
      | none => rw [et] at e; cases e
      | some t1 =>
        rw [et] at e
        simp only [TmR] at hx
        obtain ⟨a, dx, vs, o, rfl, rfl, h1, hl, h2⟩ := hx
        obtain ⟨v, ov, hv, ht, _⟩ := h2.get et
        split at e
        · rename_i d heq
          cases e
          cases heq
          simp only [TmR] at ht
          exact ⟨a, _, dx, _, v, rfl, h1, cf.c, cf.na f hm, zip_at cf.nd hj hv, q.done r ht.2⟩
        · cases e
    · rw [if_neg hc] at e; cases e
  · rename_i k c' xs
    by_cases hc : c' = c
    · subst hc
      rw [if_pos rfl] at e
      rw [Option.map_eq_some_iff] at e
      obtain ⟨d, ed, rfl⟩ := e
      obtain ⟨a, dx, vs, v, rfl, h1, hl, hv, ht⟩ := insK hx ed
      refine ⟨a, _, dx, _, v, rfl, h1, cf.c, cf.na f hm, zip_at cf.nd hj hv, q.here r (ot := []) (tp_none ht ?_) Frs.nil⟩
      exact notLoc (isub k d)
    · rw [if_neg hc] at e; cases e
  · cases e
theorem v_fld {j : Nat} (cf : ClsF X.K (G.ca c) (G.cn c)) (hj : (G.cn c)[j]? = some f) (ha : PEv X G W ios e ga) (hb : attributeBase e f X.env (eval e X.env) = eval e X.env := by rfl) : PEv X G W ios (.Attribute e f pos) (eFld c j ga) :=
  pe_imp (pe_fld ha hb) fun _ _ _ q => op1_end (op1_fld cf hj) rfl q

/-! ### self.f = e -/
def isOb (c : Nat) : Option Tm → Bool
  | some (.ob c' _) => c' == c
  | some (.v _ (.ins c' _)) => c' == c
  | _ => false
def sFst (c j i : Nat) (g : Ev) : Sm := fun ρ => (g ρ).toF fun t ρ1 => match ρ1[i]? with
  | some (some (.ob c' ts)) => match unB t with
    | some u => if c' = c ∧ j ≤ ts.length then .nx (ρ1.set i (some (.ob c (setAt ts j u)))) else .no
    | none => .no
  | _ => .no
theorem unB_loc : ∀ {t u : Tm}, unB t = some u → (∀ i, t ≠ .loc i) ∧ isLoc u = false := by
  intro t u h
  refine ⟨fun i z => by subst z; simp [unB] at h, ?_⟩
  cases t with
  | v k d => cases k <;> simp only [unB] at h <;> first | (cases h; rfl) | (split at h <;> cases h; rfl)
  | tp ts => simp only [unB, Option.map_eq_some_iff] at h; obtain ⟨_, _, rfl⟩ := h; rfl
  | ls ts => simp only [unB, Option.map_eq_some_iff] at h; obtain ⟨_, _, rfl⟩ := h; rfl
  | ob c ts => simp only [unB, Option.map_eq_some_iff] at h; obtain ⟨_, _, rfl⟩ := h; rfl
  | loc i => simp [unB] at h
/-- an attribute of an object that a name owns is stored -/
theorem SR.fst {i j : Nat} {ts : List Tm} {u : Tm} {v : V} {ot : List Addr} (cf : ClsF X.K (G.ca c) (G.cn c)) (hj : (G.cn c)[j]? = some f) (r1 : SR G pr io σ s1) (x1 : Ext s s1) (e : s1.ρ[i]? = some (some (.ob c ts))) (hl : j ≤ ts.length)
    (hu : TmR G s1.H s1.fz pr u v ot) (ndt : ot.Nodup) (sep : ∀ a ∈ ot, ¬ s1.fz a ∧ ¬ pr a ∧ a ∉ s1.os) (f1 : Frs s ot) : ∃ (a dx : Addr) (vs : List V) (os' : List Addr × List Addr), σ[i]? = some (some (.ref a)) ∧ s1.H a = some (.ins (G.ca c) dx ((G.cn c).zip vs)) ∧ vs.length ≤ (G.cn c).length ∧ TmRs G s1.H s1.fz pr ts vs (os'.1) ∧
      SR G pr io σ { s1 with H := upd s1.H a (.ins (G.ca c) dx (putF f v ((G.cn c).zip vs))), ρ := s1.ρ.set i (some (.ob c (setAt ts j u))), os := os'.2 } ∧ Ext s { s1 with H := upd s1.H a (.ins (G.ca c) dx (putF f v ((G.cn c).zip vs))), ρ := s1.ρ.set i (some (.ob c (setAt ts j u))), os := os'.2 } := by
  obtain ⟨w, o0, hv, ht, nd0, sub0, mu⟩ := r1.mut e
  simp only [TmR] at ht
  obtain ⟨a, dx, vs, o1, rfl, rfl, h1, hlen, h2⟩ := ht
  have own := r1.own a (sub0 a (by simp))
  have hsep := r1.sep a (sub0 a (by simp))
  rw [List.nodup_cons] at nd0
  obtain ⟨o2, k1, k2, k3⟩ := TmRs.setAt hu ndt j h2 nd0.2 fun b hb hb2 => (sep b hb2).2.2 (sub0 b (List.mem_cons_of_mem _ hb))
  have ha2 : a ∉ o2 := fun z => by
    rcases k3 a z with z | z
    · exact nd0.1 z
    · exact (sep a z).2.2 (sub0 a (by simp))
  have hjl : j < (G.cn c).length := (List.getElem?_eq_some_iff.mp hj).1
  have hvl : ts.length = vs.length := TmRs.len h2
  have ep : putF f v ((G.cn c).zip vs) = (G.cn c).zip (setAt vs j v) := zip_put cf.nd hj (by omega)
  obtain ⟨os', r2, hos'⟩ := mu ot a (.ins (G.ca c) dx (putF f v ((G.cn c).zip vs))) (.ob c (setAt ts j u)) (a :: o2) (by simp) sep (by rw [List.nodup_cons]; exact ⟨ha2, k2⟩) (fun b hb => by
    rcases List.mem_cons.mp hb with rfl | hb
    · exact .inl (by simp)
    · exact (k3 b hb).imp (List.mem_cons_of_mem _) id) (by
    simp only [TmR]
    refine ⟨a, dx, setAt vs j v, o2, rfl, rfl, by rw [upd_same, ep], ?_, k1.updO own hsep.1 hsep.2 ha2 _⟩
    rw [setAt_len]
    split <;> omega)
  exact ⟨a, dx, vs, (o1, os'), hv, h1, hlen, h2, r2, x1.mut own (sub0 a (by simp)) hos' f1 _ _⟩
theorem s_fst {j i : Nat} {x : Str} (cf : ClsF X.K (G.ca c) (G.cn c)) (hj : (G.cn c)[j]? = some f) (hv : PEv X G W ios value ga) (hx : X.N[i]? = some x) (hvi : Vis X.env.scope x) (hdn : (x == ("__debug__" : Str)) = false) (hcn : (x == ("__classdict__" : Str)) = false)
    (hs : swapsWith value (some (.Attribute (.Name x p) f pos')) pos.line X.env = pure false := by rfl) : PSv X G W ios (.Assign [.Attribute (.Name x p) f pos'] value pos) (sFst c j i ga) :=
  ps_imp (ps_fld (pe_var hx hvi hdn hcn) hv hs) fun D σ H q => by
    obtain ⟨pr, io, s, rfl, hi, r, q⟩ := of_tSv q
    refine tEv_of hi r (FlP.toF q fun t v s1 ot r1 x1 p1 f1 q1 => ?_)
    split at q1
    · rename_i c' ts e
      cases eu : unB t with
      | none => rw [eu] at q1; exact q1.elim
      | some u =>
        rw [eu] at q1
        dsimp only at q1
        by_cases hc : c' = c ∧ j ≤ ts.length
        · rw [if_pos hc] at q1
          obtain ⟨rfl, hl⟩ := hc
          have hu : TmR G s1.H s1.fz pr u v ot := TmR.unB _ _ _ _ (tm_of p1.rel (unB_loc eu).1) eu
          obtain ⟨a, dx, vs, os', h1, h2, h3, h4, r2, x2⟩ := SR.fst cf hj r1 x1 e hl hu p1.nd p1.sep f1
          refine ⟨.ref a, h1, a, _, dx, _, rfl, h2, cf.c, cf.na f (List.mem_of_getElem? hj), ?_, q1 σ _ rfl r2 x2⟩
          have := cf.sm
          rw [List.length_zip]
          omega
        · rw [if_neg hc] at q1; exact q1.elim
    · exact q1.elim
/-- self.f op= e -/
def sFaug (c j i : Nat) (fo : Tm → Tm → Option Tm) (g : Ev) : Sm := fun ρ => match ρ[i]? with
  | some (some (.ob c' ts0)) => match ts0[j]? with
    | some (.v .F d) => if c' = c then (g ρ).toF fun u ρ1 => match ρ1[i]? with
      | some (some (.ob c2 ts)) => match derT ρ1 u with
        | some u1 => match fo (.v .F d) u1 with
          | some rr => match unB rr with
            | some r1 => if c2 = c ∧ j ≤ ts.length then .nx (ρ1.set i (some (.ob c (setAt ts j r1)))) else .no
            | none => .no
          | none => .no
        | none => .no
      | _ => .no
      else .no
    | _ => .no
  | _ => .no
end
end PV

namespace PV
open PySem PySem.Spec L2

/-! ### methods, properties, constructors -/
section
variable {X : Cx} {k : Nat} {f C : Addr} {fd : FuncData} {ps : List Str} {sp : Sp} {E : St → XK} {x m : Str} {p pos apos : Pos} {e o : Expr} {es : List Expr} {ta : TE} {t : TA}
def tMethV (C : Addr) (m : Str) (sp : Sp) (E : St → XK) (ta : TE) (t : TA) : TE := fun σ H Q => ta σ H fun x H1 => ∃ a dx fs, x = .ref a ∧ H1 a = some (.ins C dx fs) ∧ fs.lookup m = none ∧ t σ H1 fun vs H2 => sp (x :: vs) H2 Q (E σ)
/-- C(..) -/
def tMakeV (C : Addr) (sp : Sp) (gV : List V → List V → List V) (E : St → XK) (n m : Nat) (t tk : TA) : TE := fun σ H Q => t σ H fun vs H1 => tk σ H1 fun zs H2 => vs.length = n ∧ zs.length = m ∧ ∀ x dx, H2 x = none → H2 dx = none → dx ≠ x →
  sp (gV (.ref x :: vs) zs) (upd (upd H2 dx (.own x)) x (.ins C dx [])) (fun v H3 => v = .non ∧ Q (.ref x) H3) (E σ)
variable {n : Nat} {ks : List Str} {kws : List Keyword} {tk : TA} {g : List Value → List Value → List Value} {gV : List V → List V → List V}
theorem run_makeV {pins : List (Addr × Obj)} {σ : St} {H : Hp} {s : Shared} {Q : VK} {us ws : List Value} {vs zs : List V} (M : Mk X.K C f) (F : FnG X.prog X.w X.K X.mg X.base k f fd ps sp) (hr : RoomG (k + 1) X.A)
    (hb : KBn X.K fd ps (n + 1) ks g gV) (hx : PassesAt (L2N.CX X.prog X.w) X σ (E σ)) (I : Inv X pins σ H s) (r : Vals vs us) (rz : Vals zs ws) (l1 : vs.length = n) (l2 : zs.length = ks.length)
    (h : ∀ x dx, H x = none → H dx = none → dx ≠ x → sp (gV (.ref x :: vs) zs) (upd (upd H dx (.own x)) x (.ins C dx [])) (fun v H2 => v = .non ∧ Q (.ref x) H2) (E σ)) :
    wpAny (model X.prog X.w) X.A (call (.ref C) us (ks.zip ws)) (EP X pins σ Q) X.xe s := by
  let z := s.heap.objs.size + 1
  have I2 := Inv.made (C := C) I
  have nu : (Value.ref z :: us).length = n + 1 := by rw [List.length_cons, ← r.length, l1]
  refine wpAny_call (make_map (f := f) I.kIn M.makes M.init (beq_iff_eq.mp M.fn) (codeAny_mono (F.go _ X.stack _ _ ⟨Value.ref z :: us, ks.zip ws⟩ (g (Value.ref z :: us) ws) (gV (.ref z :: vs) zs) _ (E σ) (hr.make C us (ks.zip ws))
    (I2.env0.make C us (ks.zip ws)) (hb.to _ (Value.ref z :: us) ws I2.kIn nu (rz.length.symm.trans l2)) (hb.rel (.cons rfl r) rz) (h z s.heap.objs.size (I.hok.fresh (Nat.le_succ _)) (I.hok.fresh (Nat.le_refl _)) (Nat.ne_of_lt (Nat.lt_succ_self _)))) fun w s' hw => ?_))
  match w, hw with
  | .error e, hw => exact hx pins _ _ e s' I2 hw
  | .ok (.ret u), hw =>
    obtain ⟨v, H', I3, rv, ev, q3⟩ := I2.after hw
    subst ev
    exact ⟨rv, .ref z, H', I3, rfl, q3⟩
  | .ok .next, hw => exact hw.elim
  | .ok .brk, hw => exact hw.elim
  | .ok .cont, hw => exact hw.elim
end
section
variable {G : Gx} {W : WX} {pr : Addr → Prop} {io : List (Nat × V)} {σ : L2.St} {s s1 : Sx} {ios : List Nat} {Q : VK} {X : Cx} {a b e o value : Expr} {pos p pos' tpos apos : Pos} {g0 ga gb gc : Ev} {c : Nat} {f : Str} {gs gk : Ss → OuL} {es : List Expr}
theorem OuLP.bindG {o : OuL} {k : List Tm → Ss → Ou} (x : Ext s s1) (h : OuP G W pr io σ s (o.bind k) Q)
    {R : List V → Hp → Prop} (hk : ∀ ts vs s2 ot, SR G pr io σ s2 → Ext s1 s2 → Tps G pr σ s2 ts vs ot → Frs s1 ot → OuP G W pr io σ s (k ts s2.ρ) Q → R vs s2.H) : OuLP G W pr io σ s1 o R := by
  cases o with
  | ok t ρ' =>
    intro v s2 ot e1 r1 x1 p1 f1
    subst e1
    exact hk t v s2 ot r1 x1 p1 f1 h
  | ex e' ρ' => exact OuP.later (o := .ex e' ρ') (Q := Q) h x
  | no => exact h
def eMeth (c : Nat) (fn : Fn) (ms : List Md) (g0 : Ev) (gs : Ss → OuL) : Ev := fun ρ => (g0 ρ).bind fun t0 ρ1 => if isOb c (derT ρ1 t0) = true then (gs ρ1).bind fun ts ρ2 => callF fn ms (t0 :: ts) ρ2 else .no
variable {k n : Nat} {fa : Addr} {fd : FuncData} {ps : List Str} {fn : Fn} {ms : List Md} {x m : Str}
/-- a property -/
def eProp (c : Nat) (fn : Fn) (ms : List Md) (g0 : Ev) : Ev := fun ρ => (g0 ρ).bind fun t0 ρ1 => if isOb c (derT ρ1 t0) = true then match callF fn ms [t0] ρ1 with
  | .ex _ _ => .no
  | o => o
  else .no
/-! ### C(..) -/
def isNonT : Tm → Bool
  | .v _ .non => true
  | _ => false
def mkF (c : Nat) (fn : Fn) (ms : List Md) (ts : List Tm) (ρ : Ss) : Ou := match callF fn (.io :: ms) (.loc ρ.length :: ts) (ρ ++ [some (.ob c [])]) with
  | .ok t ρ2 => if isNonT t = true then match ρ2[ρ.length]? with
    | some (some u) => .ok u (ρ2.take ρ.length)
    | _ => .no
    else .no
  | .ex e ρ2 => .ex e (ρ2.take ρ.length)
  | .no => .no
theorem Sl.snoc {H : Hp} {fz : Addr → Prop} {u : Tm} {v : V} {o2 : List Addr} (hu : TmR G H fz pr u v o2) : ∀ {ρ : Ss} {σ : L2.St} {os : List Addr}, Sl G H fz pr ρ σ os → Sl G H fz pr (ρ ++ [some u]) (σ ++ [some v]) (os ++ o2)
  | [], σ, os, h => by
    simp only [Sl] at h
    obtain ⟨rfl, rfl⟩ := h
    simp only [List.nil_append, Sl]
    exact ⟨v, [], o2, [], rfl, by simp, hu, rfl, rfl⟩
  | none :: ρ, σ, os, h => by
    simp only [Sl] at h
    obtain ⟨x, r, rfl, h⟩ := h
    simp only [List.cons_append, Sl]
    exact ⟨x, _, rfl, Sl.snoc hu h⟩
  | some t :: ρ, σ, os, h => by
    simp only [Sl] at h
    obtain ⟨w, r, o1, o3, rfl, rfl, h1, h2⟩ := h
    simp only [List.cons_append, Sl]
    exact ⟨w, _, o1, o3 ++ o2, rfl, by simp, h1, Sl.snoc hu h2⟩
theorem Sl.cut {H : Hp} {fz : Addr → Prop} {y : Option V} : ∀ {σ : L2.St} {ρ : Ss} {os : List Addr}, Sl G H fz pr ρ (σ ++ [y]) os → ∃ o1 o2, os = o1 ++ o2 ∧ Sl G H fz pr (ρ.take σ.length) σ o1 ∧ ∀ u, ρ[σ.length]? = some (some u) → ∃ v, y = some v ∧ TmR G H fz pr u v o2
  | [], [], os, h => by simp only [Sl] at h; exact absurd h.1 (by simp)
  | [], none :: ρ, os, h => by
    simp only [Sl, List.nil_append] at h
    obtain ⟨x, r, e, h⟩ := h
    cases e
    have hr : ρ = [] := by have := Sl.len h; simpa using this
    subst hr
    simp only [Sl] at h
    obtain ⟨_, rfl⟩ := h
    exact ⟨[], [], rfl, by simp [Sl], fun u hu => by simp at hu⟩
  | [], some t :: ρ, os, h => by
    simp only [Sl, List.nil_append] at h
    obtain ⟨v, r, o1, o2, e, rfl, h1, h⟩ := h
    cases e
    have hr : ρ = [] := by have := Sl.len h; simpa using this
    subst hr
    simp only [Sl] at h
    obtain ⟨_, rfl⟩ := h
    refine ⟨[], o1, by simp, by simp [Sl], fun u hu => ?_⟩
    have : t = u := by simpa using hu
    subst this
    exact ⟨v, rfl, h1⟩
  | x :: σ, [], os, h => by simp only [Sl] at h; exact absurd h.1 (by simp)
  | x :: σ, none :: ρ, os, h => by
    simp only [Sl, List.cons_append] at h
    obtain ⟨x', r, e, h⟩ := h
    cases e
    obtain ⟨o1, o2, rfl, h1, h2⟩ := Sl.cut h
    exact ⟨o1, o2, rfl, by simp only [List.length_cons, List.take_succ_cons, Sl]; exact ⟨_, _, rfl, h1⟩, fun u hu => h2 u (by simpa using hu)⟩
  | x :: σ, some t :: ρ, os, h => by
    simp only [Sl, List.cons_append] at h
    obtain ⟨v, r, p1, p2, e, rfl, ht, h⟩ := h
    cases e
    obtain ⟨o1, o2, rfl, h1, h2⟩ := Sl.cut h
    exact ⟨p1 ++ o1, o2, by simp, by simp only [List.length_cons, List.take_succ_cons, Sl]; exact ⟨v, _, p1, o1, rfl, rfl, ht, h1⟩, fun u hu => h2 u (by simpa using hu)⟩
theorem TmTs.more {σ' : L2.St} {s' : Sx} : ∀ {ts : List Tm} {vs : List V} {ot : List Addr}, TmTs G pr σ s ts vs ot → (∀ (i : Nat) v, σ[i]? = some (some v) → σ'[i]? = some (some v)) → (∀ t v o, (∀ i, t ≠ .loc i) → (∀ a ∈ o, a ∈ ot) → TmR G s.H s.fz pr t v o → TmR G s'.H s'.fz pr t v o) → TmTs G pr σ' s' ts vs ot
  | [], vs, ot, h, hσ, hk => h
  | t :: ts, vs, ot, h, hσ, hk => by
    obtain ⟨v, r, o1, o2, rfl, rfl, h1, h2⟩ := h
    refine ⟨v, r, o1, o2, rfl, rfl, ?_, TmTs.more h2 hσ fun t v o hl ho h => hk t v o hl (fun a ha => List.mem_append_right _ (ho a ha)) h⟩
    cases t with
    | loc i => exact ⟨h1.1, hσ i v h1.2⟩
    | v k' d => exact hk _ _ _ (fun i z => nomatch z) (fun a ha => List.mem_append_left _ ha) h1
    | tp _ => exact hk _ _ _ (fun i z => nomatch z) (fun a ha => List.mem_append_left _ ha) h1
    | ls _ => exact hk _ _ _ (fun i z => nomatch z) (fun a ha => List.mem_append_left _ ha) h1
    | ob _ _ => exact hk _ _ _ (fun i z => nomatch z) (fun a ha => List.mem_append_left _ ha) h1
theorem mk_read {ts : List Tm} {vs : List V} {ot : List Addr} (hn : (Md.io :: ms).length = n) (r1 : SR G pr io σ s1) (x1 : Ext s s1) (p1 : Tps G pr σ s1 ts vs ot) (f1 : Frs s ot) (q : OuP G W pr io σ s (mkF c fn ms ts s1.ρ) Q) {x dx : Addr} (hx : s1.H x = none) (hdx : s1.H dx = none) (hne : dx ≠ x) :
    spV G n (ioPos 0 (.io :: ms)) fn (.ref x :: vs) (upd (upd s1.H dx (.own x)) x (.ins (G.ca c) dx [])) (fun v H2 => v = .non ∧ Q (.ref x) H2) (WE W σ) := by
  have fx := r1.fresh hx
  have hx2 : (s1.new dx (.own x)).H x = none := by show upd _ _ _ _ = _; rw [upd_ne (Ne.symm hne)]; exact hx
  have x12 : Ext s1 ((s1.new dx (.own x)).new x (.ins (G.ca c) dx [])) := (Ext.new hdx _).trans (Ext.new hx2 _)
  have r2 : SR G pr io σ ((s1.new dx (.own x)).new x (.ins (G.ca c) dx [])) := (r1.new hdx _).new hx2 _
  generalize hs2 : (s1.new dx (.own x)).new x (.ins (G.ca c) dx []) = s2 at x12 r2
  have eH : s2.H = upd (upd s1.H dx (.own x)) x (.ins (G.ca c) dx []) := by rw [← hs2]; rfl
  have eρ : s2.ρ = s1.ρ := by rw [← hs2]; rfl
  have eos : s2.os = s1.os := by rw [← hs2]; rfl
  have efz : s2.fz = s1.fz := by rw [← hs2]; rfl
  rw [← eH]
  have hxa : s2.H x = some (.ins (G.ca c) dx []) := by rw [eH, upd_same]
  have hlen : s1.ρ.length = σ.length := Sl.len r1.sl
  have hob : TmR G s2.H s2.fz pr (.ob c []) (.ref x) [x] := by
    simp only [TmR, TmRs]
    exact ⟨x, dx, [], [], rfl, rfl, by rw [hxa]; simp, by simp, rfl, rfl⟩
  have x13 : Ext s1 { s2 with ρ := s2.ρ ++ [some (.ob c [])], os := s2.os ++ [x] } := ⟨x12.keep, x12.dom, x12.tk, x12.fz, x12.fzo, fun a ha => by
    rcases List.mem_append.mp ha with h | h
    · exact x12.oso a h
    · rw [List.mem_singleton] at h; subst h; exact .inr hx⟩
  have r3 : SR G pr io (σ ++ [some (.ref x)]) { s2 with ρ := s2.ρ ++ [some (.ob c [])], os := s2.os ++ [x] } := by
    refine ⟨Sl.snoc hob r2.sl, ?_, fun a ha => ?_, r2.dom, fun p hp => ?_⟩
    · show (s2.os ++ [x]).Nodup
      rw [List.nodup_append]
      exact ⟨r2.nd, by simp, fun a ha b hb z => by rw [List.mem_singleton] at hb; subst z; subst hb; rw [eos] at ha; exact fx.2.2 ha⟩
    · rcases List.mem_append.mp ha with h | h
      · exact r2.sep a h
      · rw [List.mem_singleton] at h; subst h; rw [efz]; exact ⟨fx.1, fx.2.1⟩
    · have := r2.iov p hp
      rw [List.getElem?_append_left ((List.getElem?_eq_some_iff.mp this).1)]
      exact this
  have own := TmTs.own p1.rel
  have p3 : Tps G pr (σ ++ [some (.ref x)]) { s2 with ρ := s2.ρ ++ [some (.ob c [])], os := s2.os ++ [x] } (.loc s1.ρ.length :: ts) (.ref x :: vs) ot := by
    refine ⟨⟨.ref x, vs, [], ot, rfl, rfl, ⟨rfl, ?_⟩, p1.rel.more (fun i v h => ?_) fun t v o hl ho h => ?_⟩, p1.nd, fun a ha => ?_⟩
    · rw [hlen]; simp
    · rw [List.getElem?_append_left ((List.getElem?_eq_some_iff.mp h).1)]; exact h
    · refine TmR.keep x12.fz (fun a p => .inr p) x12.tk _ _ _ (fun a u p e => x12.keep a u e fun z => ?_) h
      rcases p with p | p | p
      · exact (p1.sep a (ho a p)).2.2 z
      · exact (r1.sep a z).1 p
      · exact (r1.sep a z).2 p
    · have := p1.sep a ha
      refine ⟨by rw [efz]; exact this.1, this.2.1, fun z => ?_⟩
      rcases List.mem_append.mp z with h | h
      · rw [eos] at h; exact this.2.2 h
      · rw [List.mem_singleton] at h; subst h; exact (own a ha).ne hx
  unfold mkF at q
  have q3 : OuP G (fun cls d _ H => W cls d σ H) pr io (σ ++ [some (.ref x)]) s (callF fn (.io :: ms) (.loc s1.ρ.length :: ts) (s1.ρ ++ [some (.ob c [])])) (fun v H2 => v = .non ∧ Q (.ref x) H2) := by
    have cut : ∀ {s' : Sx}, SR G pr io (σ ++ [some (.ref x)]) s' → ∃ o1 o2, s'.os = o1 ++ o2 ∧ SR G pr io σ { s' with ρ := s'.ρ.take s1.ρ.length, os := o1 } ∧ ∀ u, s'.ρ[s1.ρ.length]? = some (some u) → TmR G s'.H s'.fz pr u (.ref x) o2 := fun {s'} r' => by
      obtain ⟨o1, o2, e1, h1, h2⟩ := Sl.cut r'.sl
      rw [hlen]
      have nd := r'.nd
      rw [e1, List.nodup_append] at nd
      refine ⟨o1, o2, e1, ⟨h1, nd.1, fun a ha => r'.sep a (by rw [e1]; exact List.mem_append_left _ ha), r'.dom, fun p hp => ?_⟩, fun u hu => ?_⟩
      · have a := r1.iov p hp
        exact a
      · obtain ⟨v, e, hv⟩ := h2 u hu
        cases e
        exact hv
    cases ec : callF fn (.io :: ms) (.loc s1.ρ.length :: ts) (s1.ρ ++ [some (.ob c [])]) with
    | no => rw [ec] at q; exact q.elim
    | ex e ρ2 =>
      rw [ec] at q
      intro cls d s' e1 r' x' he
      subst e1
      obtain ⟨o1, o2, e2, r4, _⟩ := cut r'
      exact q cls d { s' with ρ := s'.ρ.take s1.ρ.length, os := o1 } rfl r4 (x'.less fun a ha => by rw [e2]; exact List.mem_append_left _ ha) he
    | ok t ρ2 =>
      rw [ec] at q
      intro v s' ot' e1 r' x' p' f'
      subst e1
      dsimp only at q
      by_cases ht : isNonT t = true
      · rw [if_pos ht] at q
        cases eu : s'.ρ[s1.ρ.length]? with
        | none => rw [eu] at q; exact q.elim
        | some y =>
          cases y with
          | none => rw [eu] at q; exact q.elim
          | some u =>
            rw [eu] at q
            obtain ⟨o1, o2, e2, r4, hu⟩ := cut r'
            have nd := r'.nd
            rw [e2, List.nodup_append] at nd
            refine ⟨?_, q (.ref x) { s' with ρ := s'.ρ.take s1.ρ.length, os := o1 } o2 rfl r4 (x'.less fun a ha => by rw [e2]; exact List.mem_append_left _ ha) ⟨loc_of (hu u eu), nd.2.1, fun a ha => ?_⟩ fun a ha => x'.oso a (by rw [e2]; exact List.mem_append_right _ ha)⟩
            · cases t with
              | v k d =>
                cases d <;> simp [isNonT] at ht
                have := TmR.toD _ _ _ (show TmR G s'.H s'.fz pr (.v k .non) v ot' from p'.rel)
                simpa only [toD, Rep] using this
              | _ => simp [isNonT] at ht
            · have := r'.sep a (by rw [e2]; exact List.mem_append_right _ ha)
              exact ⟨this.1, this.2, fun z => nd.2.2 a z a ha rfl⟩
      · rw [if_neg ht] at q; exact q.elim
  rw [← eρ] at q3
  exact call_read (s1 := { s2 with ρ := s2.ρ ++ [some (.ob c [])], os := s2.os ++ [x] }) hn r3 (x1.trans x13) (by rw [← eρ] at p3; exact p3) f1 (fun _ _ _ h => h) (by rw [eρ] at q3 ⊢; exact q3)
def eMake (c : Nat) (fn : Fn) (ms : List Md) (gs gk : Ss → OuL) (dfl : List D) : Ev := fun ρ => (gs ρ).bind fun ts ρ1 => (gk ρ1).bind fun us ρ2 => mkF c fn ms (ts ++ us ++ dfl.map (Tm.v .F)) ρ2
abbrev PKv (X : Cx) (G : Gx) (W : WX) (ios : List Nat) (xs : List Keyword) (g : Ss → OuL) : Prop := PK X xs (tEvs G W ios g)
theorem pk_imp {x : List Keyword} {t t' : TA} (h : PK X x t) (i : ∀ σ H Q, t' σ H Q → t σ H Q) : PK X x t' := ⟨fun pos pins s σ H Q I q => h.run pos pins s σ H Q I (i σ H Q q)⟩
theorem vk_nil : PKv X G W ios [] gNil := pk_imp pk_nil fun σ H Q q => by
  obtain ⟨pr, io, s, rfl, hi, r, q⟩ := of_tEvs q
  exact q [] s [] rfl r (Ext.refl s) ⟨⟨rfl, rfl⟩, .nil, fun a ha => by cases ha⟩ Frs.nil
theorem TmTs.cat : ∀ {ts us : List Tm} {vs ws : List V} {o1 o2 : List Addr}, TmTs G pr σ s ts vs o1 → TmTs G pr σ s us ws o2 → TmTs G pr σ s (ts ++ us) (vs ++ ws) (o1 ++ o2)
  | [], us, vs, ws, o1, o2, h, h2 => by obtain ⟨rfl, rfl⟩ := h; exact h2
  | t :: ts, us, vs, ws, o1, o2, h, h2 => by
    obtain ⟨v, r, p1, p2, rfl, rfl, h1, h⟩ := h
    exact ⟨v, r ++ ws, p1, p2 ++ o2, rfl, by simp, h1, TmTs.cat h h2⟩
theorem TmTs.dfl : ∀ {ds : List D} {vs : List V}, Reps G s.H s.fz ds vs → TmTs G pr σ s (ds.map (Tm.v .F)) vs []
  | [], vs, h => by simp only [Reps] at h; exact ⟨h, rfl⟩
  | d :: ds, vs, h => by
    simp only [Reps] at h
    obtain ⟨v, r, rfl, h1, h2⟩ := h
    exact ⟨v, r, [], [], rfl, rfl, ⟨rfl, h1⟩, TmTs.dfl h2⟩
theorem Tps.cat {ts us : List Tm} {vs ws : List V} {o1 o2 : List Addr} {s2 : Sx} (p1 : Tps G pr σ s1 ts vs o1) (r1 : SR G pr io σ s1) (x2 : Ext s1 s2) (p2 : Tps G pr σ s2 us ws o2) (f2 : Frs s1 o2) : Tps G pr σ s2 (ts ++ us) (vs ++ ws) (o1 ++ o2) := by
  have own := p1.rel.own
  refine ⟨TmTs.cat (p1.rel.more (fun _ _ h => h) fun t v o hl ho h => ?_) p2.rel, ?_, fun a ha => ?_⟩
  · refine TmR.keep x2.fz (fun a p => .inr p) x2.tk _ _ _ (fun a u p e => x2.keep a u e fun z => ?_) h
    rcases p with p | p | p
    · exact (p1.sep a (ho a p)).2.2 z
    · exact (r1.sep a z).1 p
    · exact (r1.sep a z).2 p
  · rw [List.nodup_append]
    refine ⟨p1.nd, p2.nd, fun a ha b hb z => ?_⟩
    subst z
    rcases f2 a hb with h | h
    · exact (p1.sep a ha).2.2 h
    · exact (own a ha).ne h
  · rcases List.mem_append.mp ha with h | h
    · refine ⟨fun z => ?_, (p1.sep a h).2.1, fun z => ?_⟩
      · rcases x2.fzo a z with y | y | y
        · exact (p1.sep a h).1 y
        · exact (p1.sep a h).2.2 y
        · exact (own a h).ne y
      · rcases x2.oso a z with y | y
        · exact (p1.sep a h).2.2 y
        · exact (own a h).ne y
    · exact p2.sep a h
end
end PV

namespace PV
open PySem PySem.Spec L2

/-! ### sorted(xs) of ints: a list, a tuple -/
section
open PyProof.Rows
variable {prog : Program} {w : World} {A : Around} {E : Value → Shared → Prop} {s : Shared}
end
/-- sorted(xs), a list or a tuple of ints -/
def rSrt (K : PySem.W.Frag) : List V → Hp → VK → Prop := fun vs H Q => ∃ (a : Addr) (ns : List Int), vs = [V.ref a] ∧ (SqL K H a (ns.map V.int) ∨ SqT K H a (ns.map V.int)) ∧
  ∀ (ns' : List Int) (p : Addr), ns'.Perm ns → ns'.Pairwise (· ≤ ·) → H p = none → Q (.ref p) (upd H p (.lst (ns'.map V.int)))
/-- the ascending list -/
def isort (ns : List Int) : List Int := ns.mergeSort (· ≤ ·)
section
variable {G : Gx} {W : WX} {pr : Addr → Prop} {io : List (Nat × V)} {σ : L2.St} {s s1 : Sx} {ios : List Nat} {Q : VK} {X : Cx} {a b c : Expr} {pos p : Pos} {x : Str} {ga gb gc : Ev}
def opSort (t : Tm) : Option Tm := match toD t with
  | .lst xs => (intsD xs).map fun ns => .v .O (.lst ((isort ns).map .int))
  | .tup xs => (intsD xs).map fun ns => .v .O (.lst ((isort ns).map .int))
  | .kt => some (.v .O (.lst []))
  | _ => none
def eSorted : Ev → Ev := eOp1 opSort
/-! ### repr(x) -/
def reprD (d : D) : Option D := match toPy d with
  | some (.tuple ds) => if PyData.showable (.tuple ds) = true ∧ PyData.hasDict (.tuple ds) = false ∧ PyData.depth (.tuple ds) < 60 ∧ (PyData.shown (.tuple ds)).length ≤ sizeLine then some (.str (PyData.shown (.tuple ds))) else none
  | some (.list ds) => if PyData.showable (.list ds) = true ∧ PyData.hasDict (.list ds) = false ∧ PyData.depth (.list ds) < 60 ∧ (PyData.shown (.list ds)).length ≤ sizeLine then some (.str (PyData.shown (.list ds))) else none
  | some (.int i) => if i.natAbs.log2 < 1920 then some (.str (toString i)) else none
  | _ => none
def rReprC (X : Cx) : List V → Hp → VK → Prop := fun vs H Q => ∃ (a : Addr) (d : PyData), vs = [V.ref a] ∧ Dp X.K H (.ref a) d ∧ PyData.showable d = true ∧ PyData.hasDict d = false ∧ PyData.depth d < 60 ∧ (PyData.shown d).length ≤ sizeLine ∧ Q (.str d.shown) H
theorem cr_reprC {k : Nat} (hr : RoomG k X.A) : CallR X (.builtin "repr") (rReprC X) := by
  intro pins s σ H vs us Q I r h
  obtain ⟨a, d, rfl, hd, h1, h2, h3, h4, q⟩ := h
  rw [Vals.ref1 r]
  obtain ⟨as, rd⟩ := Dp.reads I d _ (.ref a) hd rfl
  have hu := hr.r.un
  exact repr_of_reads' rd h1 (PyData.noDict_hsm h2) hr.g (by omega) (fun _ _ e => e) (fun h' u tk hk => ⟨.str d.shown, H, I.kept hk, ⟨u, rfl⟩, q⟩) h4
def rRepr (X : Cx) : List V → Hp → VK → Prop := fun vs H Q => (∃ i, vs = [.int i] ∧ i.natAbs.log2 < 1920 ∧ Q (.str (toString i)) H) ∨ rReprC X vs H Q
theorem cr_repr {k : Nat} (hr : RoomG k X.A) : CallR X (.builtin "repr") (rRepr X) := by
  intro pins s σ H vs us Q I r h
  rcases h with h | h
  · exact SkE.call_repr_int pins s σ H vs us Q I r h
  · exact cr_reprC hr pins s σ H vs us Q I r h
def eRepr : Ev → Ev := eOp1 (rd1 reprD)
end
end PV

namespace PV
open PySem PySem.Spec L2

/-! ### tuple(range(..)), list(range(..)) -/
section
variable {G : Gx} {W : WX} {pr : Addr → Prop} {io : List (Nat × V)} {σ : L2.St} {s s1 : Sx} {ios : List Nat} {Q : VK} {X : Cx} {a b c : Expr} {pos p pos2 p2 : Pos} {x : Str} {ga gb gc : Ev}
theorem OuP.mono {o : Ou} {Q' : VK} (h : OuP G W pr io σ s o Q) (i : ∀ v H, Q v H → Q' v H) : OuP G W pr io σ s o Q' := by
  cases o with
  | ok t ρ => exact fun v s' ot h1 h2 h3 h4 h5 => i _ _ (h v s' ot h1 h2 h3 h4 h5)
  | ex e ρ => exact h
  | no => exact h
def rgD (i j : Int) : List D := (List.range (j - i).toNat).map fun (n : Nat) => .int (i + (n : Int))
theorem rgD_rep {H : Hp} {P : Addr → Prop} (i j : Int) : Reps G H P (rgD i j) (rgV i j) := by
  have h : ∀ l : List Nat, Reps G H P (l.map fun (n : Nat) => D.int (i + (n : Int))) (l.map fun (n : Nat) => V.int (i + (n : Nat))) := by
    intro l
    induction l with
    | nil => simp [Reps]
    | cons n l ih => simp only [List.map_cons, Reps, Rep]; exact ⟨_, _, rfl, rfl, ih⟩
  exact h _
def rgB (i j : Int) : Bool := decide (-(2 ^ 62) ≤ i ∧ i < 2 ^ 62 ∧ -(2 ^ 62) ≤ j ∧ j < 2 ^ 62 ∧ (j - i).toNat ≤ 2 ^ 24)
def opRg (tup : Bool) (t u : Tm) : Option Tm := match toD t, toD u with
  | .int i, .int j => if rgB i j = true then some (if tup = true then .v .F (.tup (rgD i j)) else .v .O (.lst (rgD i j))) else none
  | _, _ => none
def eTupR (tup : Bool) : Ev → Ev → Ev := eOp2 (opRg tup)
def eZ : Ev := fun ρ => .ok (.v .F (.int 0)) ρ
theorem rg_end {tup : Bool} {H : Hp} (q : tEv G W ios (eTupR tup ga gb) σ H Q) : tEv G W ios ga σ H fun x H1 => tEv G W ios gb σ H1 fun y H2 => ∃ i j, x = .int i ∧ y = .int j ∧ RgOk i j ∧ ∀ p, H2 p = none → Q (.ref p) (upd H2 p (if tup = true then .tup (rgV i j) else .lst (rgV i j))) :=
  op2_end (f := opRg tup) (r := fun x y H2 Q => ∃ i j, x = .int i ∧ y = .int j ∧ RgOk i j ∧ ∀ p, H2 p = none → Q (.ref p) (upd H2 p (if tup = true then .tup (rgV i j) else .lst (rgV i j)))) (by
    intro pr io σ s x y tx ty t ox oy Q hr hx hy e q
    have h1 := TmR.toD _ _ _ hx
    have h2 := TmR.toD _ _ _ hy
    unfold opRg at e
    split at e
    · rename_i i j e1 e2
      rw [e1] at h1
      rw [e2] at h2
      simp only [Rep] at h1 h2
      split at e
      · rename_i hb
        cases e
        refine ⟨i, j, h1, h2, by simpa [rgB, RgOk] using hb, fun p hp => ?_⟩
        cases tup with
        | true => exact q.tup hr (rgD_rep i j) hp
        | false => exact q.lst hr (rgD_rep i j) hp
      · cases e
    · cases e) q
theorem v_lstR1 (hc : X.calm = true) (hm : X.mg "list" = none) (hm2 : X.mg "range" = none) (ha : PEv X G W ios a ga) (hg : Gl X "list" := by rfl) (hg2 : Gl X "range" := by rfl) (na : starEach [a] X.env = (false, eval a X.env) :: starEach [] X.env := by rfl)
    (nc : starEach [.Call (.Name "range" p2) [a] [] pos2] X.env = (false, eval (.Call (.Name "range" p2) [a] [] pos2) X.env) :: starEach [] X.env := by rfl) :
    PEv X G W ios (.Call (.Name "list" p) [.Call (.Name "range" p2) [a] [] pos2] [] pos) (eTupR false eZ ga) :=
  pe_imp (pe_listRg hc hg hm (prg_1 hg2 hm2 ha na) nc) fun σ H Q q => by
    have key : tEv G W ios ga σ H (fun y H2 => ∃ j, y = .int j ∧ RgOk 0 j ∧ ∀ p, H2 p = none → Q (.ref p) (upd H2 p (.lst (rgV 0 j)))) → (tLstRg (tRg1 (tEv G W ios ga))) σ H Q := fun h => h
    refine key ?_
    have := rg_end q
    obtain ⟨pr, io, s, rfl, hi, r, q⟩ := of_tEv this
    have q := q.done r (v := .int 0) (by simp only [Rep])
    obtain ⟨pr, io, s, es, hi, r, q⟩ := of_tEv q
    rw [← es]
    refine (tEv_of hi r (OuP.mono q fun y H2 q => ?_) : tEv G W ios _ σ s.H _)
    obtain ⟨i, j, h1, h2, h3, h4⟩ := q
    cases h1
    exact ⟨j, h2, h3, h4⟩
end

/-! ### the head: a law's promise at the heap behind the top -/
section
open PyProof.Rows
/-- what holds of a law's call -/
def LawEnd (P : Program) (w : World) (fa a : Addr) (s₁ : Shared) : Prop := codeAny (model P w) callerA (.call (.ref fa) ⟨[.ref a], []⟩) (fun r s' => r = .ok (.ret (.bool true)) ∧ OldK s₁.heap s'.heap ∧ s'.os = s₁.os ∧ AllBare s'.gens) s₁
theorem lawEnd {P : Program} {w : World} {K : PySem.W.Frag} {mg mb : Str → Option Value} {k : Nat} {fa a : Addr} {fd : FuncData} {x : Str} {sp : Sp} {s₁ : Shared} {vs : List Value} {ns : List Int}
    (KX : K.In s₁.heap) (hns : s₁.heap.Ns mainGlobals mg) (hb : s₁.heap.Ns builtinsNs mb) (hbb : ∀ x : Str, x ≠ "__name__" → mb x = bootBuiltins x) (hlim : s₁.heap.NoLimit) (hg : s₁.gens = #[])
    (ha : s₁.heap.get? a = some { cls := .type "list", data := .seq vs.toArray }) (hi : IntsAre vs ns) (hl : ns.length ≤ sizeLine) (hr : RoomG k callerA)
    (F : ∀ base : Heap, K.In base → base.Ns mainGlobals mg → FnG P w K mg base k fa fd [x] sp) (hbind : ∀ (s : Shared) (u : Value), BindsTo s fd ⟨[u], []⟩ [(x, u)])
    (hsp : ∀ H : Hp, Only H → SqL K H a (ns.map V.int) → sp [.ref a] H (fun v _ => v = .bl true) fun _ _ _ => False) : LawEnd P w fa a s₁ := by
  have rv := vals_ints hi
  have go : ∀ H : Hp, Only H → SqL K H a (ns.map V.int) → HOk P w H s₁.heap → (∀ b, H b ≠ none → b = a ∧ K.lookup a = none) → LawEnd P w fa a s₁ := by
    intro H hO hS hok hA
    have old : ∀ {b : Addr} {o : Obj}, s₁.heap.get? b = some o → b ≠ a ∨ K.lookup a ≠ none → (hidT s₁.heap H).get? b = some o := fun {b o} e n => hidT_get e (by
      cases q : H b with
      | none => rfl
      | some u =>
        obtain ⟨z1, z2⟩ := hA b (by rw [q]; simp)
        rcases n with n | n
        · exact absurd z1 n
        · exact absurd z2 n)
    have space : ∀ {b : Addr} {m : Str → Option Value}, s₁.heap.Ns b m → (hidT s₁.heap H).Ns b m := fun {b m} ⟨o, es, ep, e, d, r⟩ => ⟨o, es, ep, old e (.inl fun z => by
      subst z
      rw [ha] at e
      cases e
      cases (show Data.seq vs.toArray _ = Data.dict es ep from d)), d, r⟩
    have kin : K.In (hidT s₁.heap H) := fun b o e => old (KX b o e) (by
      by_cases z : b = a
      · subst z; exact .inr (by rw [e]; simp)
      · exact .inl z)
    obtain ⟨mc, l1, l2⟩ := hlim
    have e0 : Env0 P w K mg (hidT s₁.heap H) callerA [] s₁ H := ⟨rfl, ⟨kin, space hns, ⟨mb, space hb, hbb⟩, mc, space l1, l2⟩, fun b o e => of_hidT e, Nat.le_of_eq (hidT_size _ _), trivial, fun b z => (List.not_mem_nil z).elim, hok, .of_eq hg⟩
    refine codeAny_mono ((F _ kin (space hns)).go callerA [] s₁ H ⟨[.ref a], []⟩ [.ref a] [.ref a] _ _ hr e0 (hbind s₁ (.ref a)) (.cons rfl .nil) (hsp H hO hS)) fun r s' h => ?_
    match r, h with
    | .error e, h => obtain ⟨_, _, _, _, _, _, _, _, _, _, _, _, z⟩ := h; exact z.elim
    | .ok .next, h => exact h.elim
    | .ok .brk, h => exact h.elim
    | .ok .cont, h => exact h.elim
    | .ok (.ret u), h =>
      obtain ⟨v, H', os, bare, un, hok', r', q⟩ := h
      cases (show v = .bl true from q)
      cases (show u = Value.bool true from r')
      refine ⟨rfl, OldK.of_keep fun b o e => ?_, os, bare⟩
      rcases hO b with z | ⟨ob, xs, z⟩
      · exact un.keep b o e z (fun y => (List.not_mem_nil y).elim) (by simp)
      · have z1 := (hok b _ z).1
        have z2 := (hok' b _ (un.frzs b ob _ z)).1
        rw [e] at z1
        cases z1
        exact z2
  by_cases hk : K.lookup a = none
  · refine go (fun b => if b = a then some (.frz { cls := .type "list", data := .seq vs.toArray } (.lst (ns.map V.int))) else none) (fun b => ?_) (.inl (.inr ⟨{ cls := .type "list", data := .seq vs.toArray }, if_pos rfl⟩)) (fun b u z => ?_) fun b z => ?_
    · by_cases e : b = a
      · exact .inr ⟨_, _, if_pos e⟩
      · exact .inl (if_neg e)
    · by_cases e : b = a
      · have z' := (if_pos e).symm.trans z
        cases z'
        subst e
        exact ⟨ha, by rw [List.length_map]; exact hl, vs, _, rv, ha⟩
      · cases (if_neg e).symm.trans z
    · by_cases e : b = a
      · exact ⟨e, hk⟩
      · exact absurd (if_neg e) z
  · obtain ⟨o, ho⟩ := Option.ne_none_iff_exists'.mp hk
    have e := KX a o ho
    rw [ha] at e
    cases e
    exact go (fun _ => none) (fun _ => .inl rfl) (.inr ⟨_, vs.toArray, _, ho, rfl, rfl, rfl, by rw [List.size_toArray, hi.length]; exact hl, by simpa using rv⟩) (fun b u z => by cases (show (none : Option HO) = some u from z)) fun b z => absurd rfl z
end
end PV

namespace PV
open PySem PySem.Spec L2

/-! ### the end -/
theorem walkG {l : PySem.W.OpenLaw} {n k : Nat} {q : Program} {loose : List Str} {XP : (Str → Option Value) → Heap → Prop} {YP : World → Heap → Prop} {d : DefRec} {K : Params → PySem.W.Frag} {x : Str} {f : Fn}
    (hn : l.most = some n) (hn2 : n ≤ sizeLine) (hdf : d.params.defaults = []) (hr : RoomG k callerA) (hY : ∀ (w : World) (h : Heap), YP w h → (K w.params).In h)
    (hf : ∀ ns : List Int, ns.length ≤ n → f [.v .B (.scr ns)] = .ok (.v .F (.bl true)) [])
    (F : ∀ (w : World) (mg : Str → Option Value) (fa : Addr) (h : Heap), (K w.params).In h → h.Ns mainGlobals mg → mg d.name = some (.ref fa) →
      ∃ (fd : FuncData) (G : Gx), G.K = K w.params ∧ (∀ (s : Shared) (u : Value), BindsTo s fd ⟨[u], []⟩ [(x, u)]) ∧ ∀ base : Heap, (K w.params).In base → base.Ns mainGlobals mg → FnG l.prog w (K w.params) mg base k fa fd [x] (spV G 1 [] f)) :
    PySem.W.WalkO q loose XP YP l.row.toRowW d [] (fun f vs => PySem.call f vs) := by
  refine Att.attach_call hn hdf fun w s₀ s₁ mg mb fa o pm cd doc a vs ns G0 Y ho hd hcd hmg hobj hints hlen hg => ?_
  have KX := hY w _ Y
  obtain ⟨fd, G, hGK, hb, hF⟩ := F w mg fa _ KX G0.T.g hmg
  refine lawEnd KX G0.T.g G0.T.b G0.T.builtins G0.T.nolimit hg hobj hints (Nat.le_trans hlen hn2) hr hF hb fun H hO hS => ?_
  have hsc : ScrAt G.K H a (ns.map id) := by
    rw [List.map_id]
    rcases hS with (h | ⟨o, h⟩) | h
    · rcases hO a with z | ⟨o, xs, z⟩
      · rw [z] at h; cases h
      · rw [z] at h; cases h
    · exact .inl ⟨o, h⟩
    · exact .inr (.inr (hGK ▸ h))
  rw [List.map_id] at hsc
  refine ⟨rfl, fun _ => False, [], { H := H, fz := fun _ => False, os := [], ρ := [some (.v .B (.scr ns))] }, [.v .B (.scr ns)], rfl, rfl, rfl, ⟨?_, List.nodup_nil, fun a ha => (List.not_mem_nil ha).elim, fun a h => (h.elim id id).elim, fun p hp => (List.not_mem_nil hp).elim⟩, ?_⟩
  · simp only [List.map_cons, List.map_nil, Sl]
    refine ⟨.ref a, [], [], [], rfl, rfl, ?_, rfl, rfl⟩
    simp only [TmR, Rep]
    exact ⟨trivial, a, rfl, hsc⟩
  · rw [hf ns hlen]
    intro v s' oio ot x dom hu ht _ _
    simp only [TmR, Rep] at ht
    exact ht.2
end PV

namespace PV
open PySem PySem.Spec L2
section
variable {G : Gx} {W : WX} {pr : Addr → Prop} {io : List (Nat × V)} {σ : L2.St} {s s1 : Sx} {ios : List Nat} {Q : VK} {X : Cx} {a b c : Expr} {pos p px py pz pt pt2 : Pos} {kt k2 : Nat} {x y z name : Str} {ga gb gc : Ev} {k : Nat}
/-! ### a, b = x, y -/
def stAll : List Nat → List Tm → Ss → Option Ss
  | [], [], ρ => some ρ
  | i :: is, t :: ts, ρ => if isLoc t = false ∧ i < ρ.length then stAll is ts (ρ.set i (some t)) else none
  | _, _, _ => none
def setAll : L2.St → List Nat → List V → L2.St
  | σ, i :: is, v :: vs => setAll (σ.set i (some v)) is vs
  | σ, _, _ => σ
theorem SR.storeX (r : SR G pr io σ s1) {t : Tm} {v : V} {ot : List Addr} (p : Tp G pr σ s1 t v ot) (hl : isLoc t = false) {i : Nat} (hi : i < s1.ρ.length) (hio : i ∉ io.map Prod.fst) :
    ∃ os', SR G pr io (σ.set i (some v)) { s1 with ρ := s1.ρ.set i (some t), os := os' } ∧ ∀ a ∈ os', a ∈ s1.os ∨ a ∈ ot := by
  obtain ⟨os', r2, x2⟩ := r.store (s := { s1 with os := s1.os ++ ot }) Ext.minus p (fun a ha => .inl (List.mem_append_right _ ha)) hl hi hio
  refine ⟨os', r2, fun a ha => ?_⟩
  rcases x2.oso a ha with h | h
  · exact List.mem_append.mp h
  · exact absurd h (r2.own a ha).ne
theorem stAll_ok : ∀ {is : List Nat} {ts : List Tm} {vs : List V} {ot : List Addr} {s1 : Sx} {σ : L2.St} {ρ2 : Ss}, SR G pr io σ s1 → Ext s s1 → TmRs G s1.H s1.fz pr ts vs ot → ot.Nodup → (∀ a ∈ ot, ¬ s1.fz a ∧ ¬ pr a ∧ a ∉ s1.os) → Frs s ot → (∀ i ∈ is, i ∉ io.map Prod.fst) →
    stAll is ts s1.ρ = some ρ2 → ∃ os', SR G pr io (setAll σ is vs) { s1 with ρ := ρ2, os := os' } ∧ Ext s { s1 with ρ := ρ2, os := os' }
  | [], [], vs, ot, s1, σ, ρ2, r, x, h, nd, sep, f, hio, e => by
    simp only [stAll, Option.some.injEq] at e
    subst e
    simp only [TmRs] at h
    obtain ⟨rfl, rfl⟩ := h
    exact ⟨s1.os, r, x⟩
  | [], t :: ts, vs, ot, s1, σ, ρ2, r, x, h, nd, sep, f, hio, e => by simp [stAll] at e
  | i :: is, [], vs, ot, s1, σ, ρ2, r, x, h, nd, sep, f, hio, e => by simp [stAll] at e
  | i :: is, t :: ts, vs, ot, s1, σ, ρ2, r, x, h, nd, sep, f, hio, e => by
    simp only [TmRs] at h
    obtain ⟨v, vr, o1, o2, rfl, rfl, h1, h2⟩ := h
    rw [List.nodup_append] at nd
    simp only [stAll] at e
    split at e
    · rename_i hc
      obtain ⟨os1, r2, k2⟩ := r.storeX ⟨loc_of h1, nd.1, fun a ha => sep a (List.mem_append_left _ ha)⟩ hc.1 hc.2 (hio i List.mem_cons_self)
      have x2 : Ext s { s1 with ρ := s1.ρ.set i (some t), os := os1 } := ⟨x.keep, x.dom, x.tk, x.fz, x.fzo, fun a ha => (k2 a ha).elim (x.oso a) fun z => f a (List.mem_append_left _ z)⟩
      exact stAll_ok (is := is) (ts := ts) (vs := vr) (ot := o2) (s1 := { s1 with ρ := s1.ρ.set i (some t), os := os1 }) r2 x2 h2 nd.2.1 (fun a ha => ⟨(sep a (List.mem_append_right _ ha)).1, (sep a (List.mem_append_right _ ha)).2.1, fun z => (k2 a z).elim (sep a (List.mem_append_right _ ha)).2.2 fun y => nd.2.2 a y a ha rfl⟩)
        (fun a ha => f a (List.mem_append_right _ ha)) (fun j hj => hio j (List.mem_cons_of_mem _ hj)) e
    · cases e
theorem stAll_loc : ∀ {is : List Nat} {ts : List Tm} {ρ ρ2 : Ss}, stAll is ts ρ = some ρ2 → (ts.all fun t => match t with | .loc _ => false | _ => true) = true
  | [], [], ρ, ρ2, e => rfl
  | [], t :: ts, ρ, ρ2, e => by simp [stAll] at e
  | i :: is, [], ρ, ρ2, e => rfl
  | i :: is, t :: ts, ρ, ρ2, e => by
    simp only [stAll] at e
    split at e
    · rename_i hc
      rw [List.all_cons, stAll_loc e, Bool.and_true]
      cases t with
      | loc i => simp [isLoc] at hc
      | _ => rfl
    · cases e
def sPar (is : List Nat) (gs : Ss → OuL) : Sm := fun ρ => match gs ρ with
  | .ok ts ρ1 => match stAll is ts ρ1 with
    | some ρ2 => .nx ρ2
    | none => .no
  | .ex e ρ1 => .ex e ρ1
  | .no => .no
theorem par_read {is : List Nat} {gs : Ss → OuL} {D : Ends} {H : Hp} (hio : ∀ i ∈ is, i ∉ ios) (q : tSv G W ios (sPar is gs) D σ H) : tEvs G W ios gs σ H fun vs H1 => vs.length = is.length ∧ D.nx (setAll σ is vs) H1 := by
  obtain ⟨pr, io, s, rfl, hi, r, q⟩ := of_tSv q
  refine tEvs_of hi r ?_
  unfold sPar at q
  cases e : gs s.ρ with
  | no => rw [e] at q; exact q.elim
  | ex e' ρ' => rw [e] at q; exact fun cls d s' h1 h2 h3 h4 => q cls d σ s' h1 h2 h3 h4
  | ok ts ρ' =>
    rw [e] at q
    intro vs s1 ot e1 r1 x1 p1 f1
    subst e1
    dsimp only at q
    cases e2 : stAll is ts s1.ρ with
    | none => rw [e2] at q; exact q.elim
    | some ρ2 =>
      rw [e2] at q
      have hl : ∀ {is : List Nat} {ts : List Tm} {ρ ρ2 : Ss}, stAll is ts ρ = some ρ2 → ts.length = is.length := by
        intro is
        induction is with
        | nil => intro ts ρ ρ2 e; cases ts <;> simp [stAll] at e ⊢
        | cons i is ih =>
          intro ts ρ ρ2 e
          cases ts with
          | nil => simp [stAll] at e
          | cons t ts =>
            simp only [stAll] at e
            split at e
            · simp [ih e]
            · cases e
      obtain ⟨os', r2, x2⟩ := stAll_ok r1 x1 (p1.rel.tm (stAll_loc e2)) p1.nd p1.sep f1 (fun i h => by rw [hi]; exact hio i h) e2
      exact ⟨by rw [← p1.rel.len]; exact hl e2, q _ { s1 with ρ := ρ2, os := os' } rfl r2 x2⟩
theorem OuLP.mono {o : OuL} {Q Q' : List V → Hp → Prop} (h : OuLP G W pr io σ s o Q) (i : ∀ v H, Q v H → Q' v H) : OuLP G W pr io σ s o Q' := by
  cases o with
  | ok t ρ => exact fun v s' ot h1 h2 h3 h4 h5 => i _ _ (h v s' ot h1 h2 h3 h4 h5)
  | ex e ρ => exact h
  | no => exact h
theorem s_par {i j : Nat} {gs : Ss → OuL} (hc : X.calm = true) (hN : X.N.Nodup) (hij : i ≠ j) (hio : ∀ l ∈ [i, j], l ∉ ios) (ha : PAv X G W ios [a, b] gs) (hi : X.N[i]? = some x := by rfl) (hj : X.N[j]? = some y := by rfl) (hx : X.env.scope.names.lookup x = some .local := by rfl) (hy : X.env.scope.names.lookup y = some .local := by rfl)
    (hw : swappedStores [.Tuple [.Name x px, .Name y py] kt pt] (.Tuple [a, b] k2 pt2) X.env = pure (some [x, y]) := by rfl) (hs : swapsWithSole [.Tuple [.Name x px, .Name y py] kt pt] (.Tuple [a, b] k2 pt2) pos.line X.env = pure false := by rfl) :
    PSv X G W ios (.Assign [.Tuple [.Name x px, .Name y py] kt pt] (.Tuple [a, b] k2 pt2) pos) (sPar [i, j] gs) := ps_imp (ps_par hc hN hi hj hij hx hy ha hw hs) fun D σ H q => by
  have h := par_read hio q
  obtain ⟨pr, io, s, rfl, hi, r, h⟩ := of_tEvs h
  refine (tEvs_of hi r (OuLP.mono h fun vs H1 h => ?_) : tEvs G W ios gs σ s.H _)
  obtain ⟨h1, h2⟩ := h
  match vs, h1 with
  | [v, w], _ => exact ⟨v, w, rfl, h2⟩
theorem s_par3 {i j l : Nat} {gs : Ss → OuL} (hc : X.calm = true) (hN : X.N.Nodup) (hij : i ≠ j) (hil : i ≠ l) (hjl : j ≠ l) (hio : ∀ n ∈ [i, j, l], n ∉ ios) (ha : PAv X G W ios [a, b, c] gs) (hi : X.N[i]? = some x := by rfl) (hj : X.N[j]? = some y := by rfl) (hl : X.N[l]? = some z := by rfl)
    (hx : X.env.scope.names.lookup x = some .local := by rfl) (hy : X.env.scope.names.lookup y = some .local := by rfl) (hz : X.env.scope.names.lookup z = some .local := by rfl)
    (hw : swappedStores [.Tuple [.Name x px, .Name y py, .Name z pz] kt pt] (.Tuple [a, b, c] k2 pt2) X.env = pure (some [x, y, z]) := by rfl) (hs : swapsWithSole [.Tuple [.Name x px, .Name y py, .Name z pz] kt pt] (.Tuple [a, b, c] k2 pt2) pos.line X.env = pure false := by rfl) :
    PSv X G W ios (.Assign [.Tuple [.Name x px, .Name y py, .Name z pz] kt pt] (.Tuple [a, b, c] k2 pt2) pos) (sPar [i, j, l] gs) := ps_imp (ps_par3 hc hN hi hj hl hij hil hjl hx hy hz ha hw hs) fun D σ H q => by
  have h := par_read hio q
  obtain ⟨pr, io, s, rfl, hi, r, h⟩ := of_tEvs h
  refine (tEvs_of hi r (OuLP.mono h fun vs H1 h => ?_) : tEvs G W ios gs σ s.H _)
  obtain ⟨h1, h2⟩ := h
  match vs, h1 with
  | [v, w, u], _ => exact ⟨v, w, u, rfl, h2⟩

/-! ### tests by comparison -/
theorem t_eq (hr : Room k X.A) (ha : PEv X G W ios a ga) (hb : PEv X G W ios b gb) : PTv X G W ios (.Compare a [.Eq] [b] pos) (eEq ga gb) := t_cmp (op_eq.or (op_eqD hr.units)) (Rd2.op rdEq) ha hb (nomark _)
theorem t_ne (hr : Room k X.A) (ha : PEv X G W ios a ga) (hb : PEv X G W ios b gb) : PTv X G W ios (.Compare a [.NotEq] [b] pos) (eNe ga gb) := t_cmp (op_ne.or (op_neD hr.units)) (Rd2.op rdNe) ha hb (nomark _)
theorem t_lt (ha : PEv X G W ios a ga) (hb : PEv X G W ios b gb) : PTv X G W ios (.Compare a [.Lt] [b] pos) (eLt ga gb) := t_cmp op_lt (Rd2.op rdC) ha hb (nomark _)
theorem t_gt (ha : PEv X G W ios a ga) (hb : PEv X G W ios b gb) : PTv X G W ios (.Compare a [.Gt] [b] pos) (eGt ga gb) := t_cmp op_gt (Rd2.op rdC) ha hb (nomark _)
theorem t_isN (ha : PEv X G W ios a ga) (hb : PEv X G W ios b gb) : PTv X G W ios (.Compare a [.Is] [b] pos) (eIsN ga gb) := t_cmp op_isN (Rd2.op rdIsN) ha hb (nomark _)
/-- a sign changed -/
def negD : D → Option D
  | .int i => some (.int (-i))
  | _ => none
def eNeg : Ev → Ev := eOp1 (rd1 negD)
theorem v_neg (ha : PEv X G W ios a ga) : PEv X G W ios (.UnaryOp .USub a pos) (eNeg ga) := v_un un_neg (Rd1.op (by
  intro H x dx d Q hx e q
  cases dx <;> simp only [negD, Option.some.injEq, reduceCtorEq] at e
  subst e
  simp only [Rep] at hx
  subst hx
  exact ⟨_, rfl, q _ fun P => by simp only [Rep]⟩)) ha
/-! ### op= on ints -/
def addI2 : Tm → Tm → Option Tm := rd2 (dI2 fun i j => some (i + j))
def subI2 : Tm → Tm → Option Tm := rd2 (dI2 fun i j => some (i - j))
def mulI2 : Tm → Tm → Option Tm := rd2 (dI2 mulI)
theorem op2_addI : Op2 G W addI2 (rI0 fun i j => .int (i + j)) := Rd2.op (rdI0 fun i j k e => by cases e; rfl)
end
end PV

namespace PV
open PySem PySem.Spec L2
def eN : Ev := eC .non
theorem gl_nil : ∀ ρ ts ρ', gNil ρ = .ok ts ρ' → ts.length = 0 := fun ρ ts ρ' h => by cases h; rfl
theorem gl_cons {g : Ev} {gs : Ss → OuL} {n : Nat} (h : ∀ ρ ts ρ', gs ρ = .ok ts ρ' → ts.length = n) : ∀ ρ ts ρ', gCons g gs ρ = .ok ts ρ' → ts.length = n + 1 := fun ρ ts ρ' e => by
  unfold gCons at e
  cases e1 : g ρ with
  | no => rw [e1] at e; cases e
  | ex e' ρ1 => rw [e1] at e; cases e
  | ok t ρ1 =>
    rw [e1] at e
    simp only [Ou.bindL] at e
    cases e2 : gs ρ1 with
    | no => rw [e2] at e; cases e
    | ex e' ρ2 => rw [e2] at e; cases e
    | ok us ρ2 =>
      rw [e2] at e
      simp only [OuL.bindL] at e
      cases e
      rw [List.length_cons, h _ _ _ e2]
/-- an empty tuple's object -/
def tupE (o : Obj) : Bool := match o with
  | ⟨.type "tuple", none, .seq its _, _⟩ => its.isEmpty
  | _ => false
theorem kb_of {K : PySem.W.Frag} {fd : FuncData} {ps : List Str} {n : Nat} (b : Binds K fd ps []) (hn : ps.length = n) : KBn K fd ps n [] (fun us ws => us ++ ws) (fun vs zs => vs ++ zs ++ []) := by
  refine ⟨fun s us ws hk h1 h2 => ?_, fun h1 h2 => ?_⟩
  · have : ws = [] := List.eq_nil_of_length_eq_zero h2
    subst this
    have := b s us hk (by rw [List.append_nil, h1, hn])
    simpa using this
  · rw [List.append_nil]
    exact h1.append h2
end PV

namespace PV
open PySem PySem.Spec L2
/-! ### evaluating by rewriting -/
section
variable {t u : Tm} {ρ : Ss} {k : Tm → Ss → Ou} {kL : Tm → Ss → OuL} {kk : List Tm → Ss → Ou} {kkL : List Tm → Ss → OuL} {kF : Tm → Ss → Fl} {ts : List Tm} {e : Er}
@[simp] theorem bind_ok : (Ou.ok t ρ).bind k = k t ρ := rfl
@[simp] theorem bind_ex : (Ou.ex e ρ).bind k = .ex e ρ := rfl
@[simp] theorem bind_no : Ou.no.bind k = .no := rfl
@[simp] theorem bindL_ok : (Ou.ok t ρ).bindL kL = kL t ρ := rfl
@[simp] theorem lbind_ok : (OuL.ok ts ρ).bind kk = kk ts ρ := rfl
@[simp] theorem lbind_ex : (OuL.ex e ρ).bind kk = .ex e ρ := rfl
@[simp] theorem lbindL_ok : (OuL.ok ts ρ).bindL kkL = kkL ts ρ := rfl
@[simp] theorem toF_ok : (Ou.ok t ρ).toF kF = kF t ρ := rfl
@[simp] theorem toF_ex : (Ou.ex e ρ).toF kF = .ex e ρ := rfl
def Fl.nxt (o : Fl) (g : Sm) : Fl := match o with
  | .nx ρ => g ρ
  | o => o
@[simp] theorem nxt_nx {g : Sm} : (Fl.nx ρ).nxt g = g ρ := rfl
@[simp] theorem nxt_rt {g : Sm} : (Fl.rt t ρ).nxt g = .rt t ρ := rfl
@[simp] theorem nxt_ex {g : Sm} : (Fl.ex e ρ).nxt g = .ex e ρ := rfl
@[simp] theorem nxt_bk {g : Sm} : (Fl.bk ρ).nxt g = .bk ρ := rfl
@[simp] theorem nxt_ct {g : Sm} : (Fl.ct ρ).nxt g = .ct ρ := rfl
@[simp] theorem nxt_ite {c : Prop} [Decidable c] {a b : Fl} {g : Sm} : (if c then a else b).nxt g = if c then a.nxt g else b.nxt g := by split <;> rfl
@[simp] theorem seq_eq {g1 g2 : Sm} : sSeq g1 g2 ρ = (g1 ρ).nxt g2 := by unfold sSeq Fl.nxt; cases g1 ρ <;> rfl
@[simp] theorem nil_eq : sNil ρ = .nx ρ := rfl
@[simp] theorem brk_eq : sBreak ρ = .bk ρ := rfl
@[simp] theorem cnt_eq : sCont ρ = .ct ρ := rfl
@[simp] theorem ret_eq {g : Ev} : sRet g ρ = (g ρ).toF fun t ρ1 => .rt t ρ1 := rfl
@[simp] theorem retN_eq : sRetN ρ = .rt (.v .F .non) ρ := rfl
@[simp] theorem expr_eq {g : Ev} : sExpr g ρ = (g ρ).toF fun _ ρ1 => .nx ρ1 := rfl
def iteT {α : Type} (o : Option Bool) (a b n : α) : α := match o with
  | some true => a
  | some false => b
  | none => n
@[simp] theorem iteT_some {α : Type} {b : Bool} {x y n : α} : iteT (some b) x y n = if b = true then x else y := by cases b <;> rfl
@[simp] theorem sif_eq {gc : Ev} {g1 g2 : Sm} : sIf gc g1 g2 ρ = (gc ρ).toF fun t ρ1 => iteT (asB t) (g1 ρ1) (g2 ρ1) .no := by
  unfold sIf iteT
  rfl
@[simp] theorem eif_eq {gc g1 g2 : Ev} : eIf gc g1 g2 ρ = (gc ρ).bind fun t ρ1 => iteT (asB t) (g1 ρ1) (g2 ρ1) .no := by
  unfold eIf iteT
  rfl
@[simp] theorem eand_eq {g1 g2 : Ev} : eAnd g1 g2 ρ = (g1 ρ).bind fun t ρ1 => iteT (asB t) (g2 ρ1) (.ok (.v .F (.bl false)) ρ1) .no := by
  unfold eAnd iteT
  rfl
@[simp] theorem eor_eq {g1 g2 : Ev} : eOr g1 g2 ρ = (g1 ρ).bind fun t ρ1 => iteT (asB t) (.ok (.v .F (.bl true)) ρ1) (g2 ρ1) .no := by
  unfold eOr iteT
  rfl
def okO (o : Option Tm) (ρ : Ss) : Ou := match o with
  | some r => .ok r ρ
  | none => .no
@[simp] theorem okO_some : okO (some t) ρ = .ok t ρ := rfl
@[simp] theorem okO_none : okO none ρ = .no := rfl
@[simp] theorem okO_ite {c : Prop} [Decidable c] {a b : Option Tm} : okO (if c then a else b) ρ = if c then okO a ρ else okO b ρ := by split <;> rfl
@[simp] theorem enot_eq {g : Ev} : eNot g ρ = (g ρ).bind fun t ρ1 => okO ((asB t).map fun b => .v .F (.bl (!b))) ρ1 := by
  unfold eNot okO
  congr 1
  funext t ρ1
  cases asB t <;> rfl
@[simp] theorem op1_eq {f : Tm → Option Tm} {g : Ev} : eOp1 f g ρ = (g ρ).bind fun t ρ1 => okO ((derT ρ1 t).bind f) ρ1 := rfl
@[simp] theorem op2_eq {f : Tm → Tm → Option Tm} {ga gb : Ev} : eOp2 f ga gb ρ = (ga ρ).bind fun t ρ1 => (gb ρ1).bind fun u ρ2 => okO ((derT ρ2 t).bind fun x => (derT ρ2 u).bind fun y => f x y) ρ2 := by
  unfold eOp2 okO
  congr 1
  funext t ρ1
  congr 1
  funext u ρ2
  rcases derT ρ2 t with _ | a <;> rcases derT ρ2 u with _ | b <;> try rfl
  all_goals (simp only [Option.bind_some]; cases f a b <;> rfl)
@[simp] theorem der_v {k : Kd} {d : D} : derT ρ (.v k d) = some (.v k d) := rfl
@[simp] theorem der_ob {c : Nat} : derT ρ (.ob c ts) = some (.ob c ts) := rfl
@[simp] theorem c_eq {d : D} : eC d ρ = .ok (.v .F d) ρ := rfl
@[simp] theorem n_eq : eN ρ = .ok (.v .F .non) ρ := rfl
@[simp] theorem z_eq : eZ ρ = .ok (.v .F (.int 0)) ρ := rfl
@[simp] theorem true_eq : eTrue ρ = .ok (.v .F (.bl true)) ρ := rfl
@[simp] theorem gnil_eq : gNil ρ = .ok [] ρ := rfl
@[simp] theorem gcons_eq {g : Ev} {gs : Ss → OuL} : gCons g gs ρ = (g ρ).bindL fun t ρ1 => (gs ρ1).bindL fun ts ρ2 => .ok (t :: ts) ρ2 := rfl
@[simp] theorem call_eq {f : Fn} {ms : List Md} {gs : Ss → OuL} : eCall f ms gs ρ = (gs ρ).bind (callF f ms) := rfl
@[simp] theorem toD_v {k : Kd} {d : D} : toD (.v k d) = d := by unfold toD; rfl
@[simp] theorem asB_v {k : Kd} {b : Bool} : asB (.v k (.bl b)) = some b := rfl
@[simp] theorem asI_v {k : Kd} {i : Int} : asI (.v k (.int i)) = some i := rfl
@[simp] theorem isLoc_v {k : Kd} {d : D} : isLoc (.v k d) = false := rfl
@[simp] theorem isLoc_ob {c : Nat} : isLoc (.ob c ts) = false := rfl
@[simp] theorem flat_int {i : Int} : flat (.int i) = true := by unfold flat; rfl
@[simp] theorem flat_bl {i : Bool} : flat (.bl i) = true := by unfold flat; rfl
@[simp] theorem flat_str {i : Str} : flat (.str i) = true := by unfold flat; rfl
@[simp] theorem flat_non : flat .non = true := by unfold flat; rfl
@[simp] theorem flat_lst {x : List D} : flat (.lst x) = false := by unfold flat; rfl
end
/-! the body of a def -/
def endF (ios : List Nat) : Fl → Fo
  | .nx ρ => match getIo ρ ios with
    | some us => .ok (.v .F .non) us
    | none => .no
  | .rt t ρ => match unB t, getIo ρ ios with
    | some t, some us => .ok t us
    | _, _ => .no
  | .ex e ρ => match getIo ρ ios with
    | some us => .ex e us
    | none => .no
  | _ => .no
theorem defn_eq {n : Nat} {ios : List Nat} {body : Sm} {ts : List Tm} : defn n ios body ts = endF ios (body (ts.map some ++ List.replicate (n - ts.length) none)) := rfl
@[simp] theorem endF_ite {ios : List Nat} {c : Prop} [Decidable c] {a b : Fl} : endF ios (if c then a else b) = if c then endF ios a else endF ios b := by split <;> rfl
section
variable {t u : Tm} {ρ : Ss} {ts : List Tm} {e : Er} {c : Prop} [Decidable c]
@[simp] theorem bind_ite {a b : Ou} {k : Tm → Ss → Ou} : (if c then a else b).bind k = if c then a.bind k else b.bind k := by split <;> rfl
@[simp] theorem bindL_ite {a b : Ou} {k : Tm → Ss → OuL} : (if c then a else b).bindL k = if c then a.bindL k else b.bindL k := by split <;> rfl
@[simp] theorem lbind_ite {a b : OuL} {k : List Tm → Ss → Ou} : (if c then a else b).bind k = if c then a.bind k else b.bind k := by split <;> rfl
@[simp] theorem lbindL_ite {a b : OuL} {k : List Tm → Ss → OuL} : (if c then a else b).bindL k = if c then a.bindL k else b.bindL k := by split <;> rfl
@[simp] theorem toF_ite {a b : Ou} {k : Tm → Ss → Fl} : (if c then a else b).toF k = if c then a.toF k else b.toF k := by split <;> rfl
theorem var_eq {i : Nat} : eVar i ρ = match ρ[i]? with
  | some (some (.v .O d)) => .ok (.loc i) ρ
  | some (some (.v k d)) => .ok (.v k d) ρ
  | some (some t) => .ok (.loc i) ρ
  | _ => .no := rfl
@[simp] theorem sset_eq {i : Nat} {g : Ev} : sSet i g ρ = (g ρ).toF fun t ρ1 => if isLoc t = false ∧ i < ρ1.length then .nx (ρ1.set i (some t)) else .no := rfl
def nxO : Option Ss → Fl
  | some ρ => .nx ρ
  | none => .no
@[simp] theorem nxO_some : nxO (some ρ) = .nx ρ := rfl
@[simp] theorem sasg_eq {g : Ev} {tg : Tg} : sAsg tg g ρ = (g ρ).toF fun t ρ1 => nxO (tg t ρ1) := by
  unfold sAsg nxO
  rfl
@[simp] theorem tgN_eq {i : Nat} : tgN i t ρ = if isLoc t = false ∧ i < ρ.length then some (ρ.set i (some t)) else none := rfl
@[simp] theorem tgTup_F {k : Kd} {xs : List D} {gs : Tgs} : tgTup gs (.v k (.tup xs)) ρ = gs (xs.map (subK k)) ρ := rfl
@[simp] theorem tgTup_tp {gs : Tgs} : tgTup gs (.tp ts) ρ = gs ts ρ := rfl
@[simp] theorem tgsNil_eq : tgsNil [] ρ = some ρ := rfl
@[simp] theorem tgsCons_eq {g : Tg} {gs : Tgs} : tgsCons g gs (t :: ts) ρ = (g t ρ).bind fun ρ1 => gs ts ρ1 := by
  unfold tgsCons
  cases h : g t ρ <;> simp [h]
@[simp] theorem sub_F {d : D} : subK .F d = .v .F d := rfl
@[simp] theorem sub_B {d : D} : subK .B d = .v .B d := rfl
@[simp] theorem sub_O {d : D} : subK .O d = .v .F d := rfl
def frO (o : Option D) (ρ : Ss) : Ou := match o with
  | some d => .ok (.v .F d) ρ
  | none => .no
@[simp] theorem frO_some {d : D} : frO (some d) ρ = .ok (.v .F d) ρ := rfl
def eF1 (t : Tm) (ρ1 : Ss) : Ou := match t with
  | .loc i => match ρ1[i]? with
    | some (some t0) => match frz t0 with
      | some d => .ok (.v .F d) (ρ1.set i (some (.v .F d)))
      | none => .no
    | _ => .no
  | t => match frz t with
    | some d => .ok (.v .F d) ρ1
    | none => .no
@[simp] theorem ef_eq {g : Ev} : eF g ρ = (g ρ).bind eF1 := rfl
@[simp] theorem ef1_F {d : D} : eF1 (.v .F d) ρ = .ok (.v .F d) ρ := by simp [eF1, frz]
@[simp] theorem ef1_O {d : D} : eF1 (.v .O d) ρ = .ok (.v .F d) ρ := by simp [eF1, frz]
@[simp] theorem ef1_Bi {i : Int} : eF1 (.v .B (.int i)) ρ = .ok (.v .F (.int i)) ρ := by simp [eF1, frz]
@[simp] theorem ef1_Bs {i : Str} : eF1 (.v .B (.str i)) ρ = .ok (.v .F (.str i)) ρ := by simp [eF1, frz]
@[simp] theorem ef1_Bb {i : Bool} : eF1 (.v .B (.bl i)) ρ = .ok (.v .F (.bl i)) ρ := by simp [eF1, frz]
def eM1 (t : Tm) (ρ1 : Ss) : Ou := match t with
  | .loc i => match ρ1[i]? with
    | some (some t0) => .ok t0 (ρ1.set i none)
    | _ => .no
  | t => .ok t ρ1
@[simp] theorem em_eq {g : Ev} : eM g ρ = (g ρ).bind eM1 := rfl
@[simp] theorem em1_v {k : Kd} {d : D} : eM1 (.v k d) ρ = .ok (.v k d) ρ := rfl
@[simp] theorem frz_F {d : D} : frz (.v .F d) = some d := by unfold frz; rfl
@[simp] theorem frz_O {d : D} : frz (.v .O d) = some d := by unfold frz; rfl
@[simp] theorem frz_B {d : D} : frz (.v .B d) = if flat d = true then some d else none := by unfold frz; rfl
@[simp] theorem frzs_nil : frzs [] = some [] := by unfold frzs; rfl
@[simp] theorem frzs_cons : frzs (t :: ts) = (frz t).bind fun d => (frzs ts).map fun ds => d :: ds := by
  rw [frzs]
  cases frz t <;> cases frzs ts <;> rfl
@[simp] theorem unB_F {d : D} : unB (.v .F d) = some (.v .F d) := by unfold unB; rfl
@[simp] theorem unB_O {d : D} : unB (.v .O d) = some (.v .O d) := by unfold unB; rfl
@[simp] theorem unB_B {d : D} : unB (.v .B d) = if flat d = true then some (.v .F d) else none := by unfold unB; rfl
@[simp] theorem unB_ob {c : Nat} : unB (.ob c ts) = (unBs ts).map (.ob c) := by rw [unB]
@[simp] theorem unBs_nil : unBs [] = some [] := by unfold unBs; rfl
@[simp] theorem unBs_cons : unBs (t :: ts) = (unB t).bind fun d => (unBs ts).map fun ds => d :: ds := by
  rw [unBs]
  cases unB t <;> cases unBs ts <;> rfl
@[simp] theorem getIo_nil : getIo ρ [] = some [] := rfl
@[simp] theorem getIo_cons {i : Nat} {is : List Nat} : getIo ρ (i :: is) = match ρ[i]? with
  | some (some t) => match unB t, getIo (ρ.set i none) is with
    | some u, some us => some (u :: us)
    | _, _ => none
  | _ => none := rfl
theorem etup_eq {gs : Ss → OuL} : eTup gs ρ = (gs ρ).bind fun ts ρ1 => match frzs ts with
  | some ds => if ds.length ≤ sizeLine then .ok (.v .F (.tup ds)) ρ1 else .no
  | none => .no := rfl
theorem elst_eq {gs : Ss → OuL} : eLst gs ρ = (gs ρ).bind fun ts ρ1 => match frzs ts with
  | some ds => if ds.length ≤ sizeLine then .ok (.v .O (.lst ds)) ρ1 else .no
  | none => .no := rfl
@[simp] theorem endF_rt {ios : List Nat} : endF ios (.rt t ρ) = match unB t, getIo ρ ios with
    | some t, some us => .ok t us
    | _, _ => .no := rfl
@[simp] theorem endF_nx {ios : List Nat} : endF ios (.nx ρ) = match getIo ρ ios with
    | some us => .ok (.v .F .non) us
    | none => .no := rfl
end
end PV

namespace PV
open PySem L2
theorem setset {α : Type} {l : List α} {i : Nat} {a b : α} : (l.set i a).set i b = l.set i b := by simp
@[simp] theorem rngL_len {lo : Int} {n : Nat} : (rngL lo n).length = n := by simp [rngL]
theorem rngL_at {lo : Int} {n i : Nat} {t : Tm} (h : (rngL lo n)[i]? = some t) : i < n ∧ t = .v .F (.int (lo + i)) := by
  have hi : i < n := by
    have := (List.getElem?_eq_some_iff.mp h).1
    simpa using this
  unfold rngL at h
  rw [List.getElem?_map, List.getElem?_range hi] at h
  exact ⟨hi, (Option.some.inj h).symm⟩
/-- lists of ints -/
abbrev lI (ns : List Int) : D := .lst (ns.map .int)
@[simp] theorem intsD_lI (ns : List Int) : intsD (ns.map .int) = some ns := intsD_map ns
@[simp] theorem elk_ints (k : Kd) (ns : List Int) : elk k (ns.map .int) = some (ns.map .int) := by
  cases k <;> simp [elk]
/-! data of ints -/
@[simp] theorem toPys_ints : ∀ ns : List Int, toPys (ns.map .int) = some (ns.map .int)
  | [] => by simp [toPys]
  | n :: ns => by simp [toPys, toPy, toPys_ints ns]
@[simp] theorem canLay_ints : ∀ ns : List Int, PyData.canLayAll0 (ns.map .int) = true
  | [] => by simp [PyData.canLayAll0]
  | n :: ns => by simp [PyData.canLayAll0, PyData.canLay0, canLay_ints ns]
@[simp] theorem depth_ints : ∀ ns : List Int, PyData.depthAll (ns.map .int) = 0
  | [] => by simp [PyData.depthAll]
  | n :: ns => by simp [PyData.depthAll, PyData.depth, depth_ints ns]
@[simp] theorem eqv_ints : ∀ ns ms : List Int, PyData.eqvAll (ns.map .int) (ms.map .int) = decide (ns = ms)
  | [], [] => by simp [PyData.eqvAll]
  | [], m :: ms => by simp [PyData.eqvAll]
  | n :: ns, [] => by simp [PyData.eqvAll]
  | n :: ns, m :: ms => by
    simp only [List.map_cons, PyData.eqvAll, PyData.eqv, eqv_ints ns ms, List.cons.injEq, Bool.decide_and]
    rfl
@[simp] theorem noDict_ints : ∀ ns : List Int, PyData.hasDictAll (ns.map .int) = false
  | [] => by simp [PyData.hasDictAll]
  | n :: ns => by simp [PyData.hasDictAll, PyData.hasDict, noDict_ints ns]
abbrev Sh (n : Int) : Prop := n.natAbs < 1000000000000
theorem log_sh {n : Int} (h : Sh n) : n.natAbs.log2 < 40 := by
  by_cases h0 : n.natAbs = 0
  · rw [h0]; decide
  · rw [Nat.log2_lt h0]
    have : (1000000000000 : Nat) ≤ 2 ^ 40 := by decide
    omega
theorem show_ints : ∀ ns : List Int, (∀ n ∈ ns, Sh n) → PyData.showableAll (ns.map .int) = true
  | [], _ => by simp [PyData.showableAll]
  | n :: ns, h => by
    simp only [List.map_cons, PyData.showableAll, PyData.showable, show_ints ns fun m hm => h m (List.mem_cons_of_mem _ hm), Bool.and_true, decide_eq_true_eq]
    have := log_sh (h n List.mem_cons_self)
    omega
theorem leaf_int {n : Int} (h : Sh n) : PyData.leavesShort 13 (.int n) = true := by
  simp only [PyData.leavesShort, decide_eq_true_eq]
  exact PyData.shown_int_le (by have : (10 : Nat) ^ 12 = 1000000000000 := by decide
                                omega)
theorem leaf_ints : ∀ ns : List Int, (∀ n ∈ ns, Sh n) → PyData.leavesShortAll 13 (ns.map .int) = true
  | [], _ => by simp [PyData.leavesShortAll]
  | n :: ns, h => by
    simp only [List.map_cons, PyData.leavesShortAll, leaf_int (h n List.mem_cons_self), leaf_ints ns fun m hm => h m (List.mem_cons_of_mem _ hm), Bool.and_self]
theorem wt_int {n : Int} (h : Sh n) : PyData.weight (.int n) ≤ 40 := by
  simp only [PyData.weight]
  have := log_sh h
  split <;> omega
end PV

namespace PV
open PySem PySem.Spec L2

/-! ### enumerate over a list or a tuple -/
section
open PyProof.Rows
theorem en_meets {v : Value} {o : Obj} {S : Heap → Prop} (B : Begins v o S) :
    Meets (Builtin.«enumerate.__new__» ⟨[.type "enumerate", v], []⟩) (fun _ R s => S s.heap ∧
      R (.ok (.ret (.ref (s.heap.push o).objs.size))) { s with heap := (s.heap.push o).push { cls := .type "enumerate", data := .fields #[.none, .bool false, .ref s.heap.objs.size, rawInt 0, .none, .none] } }) :=
  .of_wp fun prog w A R s h => by
    obtain ⟨hp, g, d, tk, os⟩ := s
    obtain ⟨h1, h⟩ := h
    have sub := sub_enumerate
    have go : ∀ {A' : Around} {E : Value → Shared → Prop} {Q : Value → Shared → Prop}, Q (.ref hp.objs.size) ⟨hp.push o, g, d, tk, os⟩ → wpAny (model prog w) A' (pyIter v) Q E ⟨hp, g, d, tk, os⟩ := fun q => B.iter prog w _ _ ⟨hp, g, d, tk, os⟩ _ h1 q
    wp_walk using go
    refine wpAny_stack_any fun st => wpAny_pure ?_
    split
    · rename_i c _ _ _ _ _
      cases (c == Value.type "enumerate") <;> (wp_walk using go; exact ⟨_, rfl, h⟩)
    · wp_walk using go
      exact ⟨_, rfl, h⟩
variable {prog : Program} {w : World} {A : Around} {E : Value → Shared → Prop} {s : Shared}
/-- enumerate(v): two new cells -/
theorem en_call {v : Value} {o : Obj} {S : Heap → Prop} {Q : Value → Shared → Prop} (B : Begins v o S) (h1 : S s.heap)
    (h : ∀ h', IsEnum h' (s.heap.objs.size + 1) s.heap.objs.size 0 .none → h'.get? s.heap.objs.size = some o → h'.objs.size = s.heap.objs.size + 2 →
      (∀ b o, s.heap.get? b = some o → h'.get? b = some o) → Q (.ref (s.heap.objs.size + 1)) { s with heap := h' }) : wpAny (model prog w) A (call (.type "enumerate") [v]) Q E s := by
  have sz : (s.heap.push o).objs.size = s.heap.objs.size + 1 := Heap.size_push ..
  have he := Heap.get?_push_size (s.heap.push o) (o := { cls := .type "enumerate", data := .fields #[.none, .bool false, .ref s.heap.objs.size, rawInt 0, .none, .none] }) rfl
  rw [sz] at he
  refine callType_new F.called_enumerate (by decide) (F.typeCall_enumerate_1 _) (F.newCall_enumerate_1 _) (fun obj => F.args_object_init_2 obj _) F.entry_enumerate_new (en_meets B) ⟨h1, ?_⟩
  show _ ∧ _
  rw [sz]
  exact ⟨⟨_, he, rfl⟩, h _ he (Heap.get?_push_of_some _ (Heap.get?_push_size _ B.free)) (by rw [Heap.size_push, sz]) fun b o x => Heap.get?_push_of_some _ (Heap.get?_push_of_some _ x)⟩
/-- the tuple at a as it stands at each turn, each item in a new pair -/
def IteT (K : PySem.W.Frag) (a : Addr) : It :=
  ⟨fun i H => ∃ (xs : List V) (x : V), SqT K H a xs ∧ xs[i]? = some x, fun i H v H' => ∃ T x, v = .ref T ∧ H T = none ∧ H' = upd H T (.tup [.int (i : Nat), x]) ∧ ∀ xs, SqT K H a xs → xs[i]? = some x, fun i H => ∃ xs : List V, SqT K H a xs ∧ xs.length = i⟩
theorem turn_enT {P : Program} {w : World} {K : PySem.W.Frag} {elts : List Expr} {kk : Nat} {tpos : Pos} (a e it : Addr) (hea : e ≠ a) (hia : a ≠ it) :
    Turn P w K (.Tuple elts kk tpos) (IteT K a) [e, it] e (fun i h => (∃ old, IsEnum h e it ((i : Nat) : Int) old) ∧ h.IsTupleIter it a i ∧ e ≠ it) where
  mem := by simp
  obj := fun i h st b hb => by
    obtain ⟨⟨old, he⟩, ⟨o, ho, hc, hd⟩, _⟩ := st
    have e' : b = e ∨ b = it := by simpa using hb
    rcases e' with rfl | rfl
    · exact ⟨_, he, fun v q => nomatch q⟩
    · exact ⟨o, ho, fun v q => by rw [hd] at q; cases q⟩
  keep := fun i h h' st k => let ⟨⟨old, he⟩, hi, hne⟩ := st; ⟨⟨old, k e (by simp) _ he⟩, hi.at fun o q => k it (by simp) o q, hne⟩
  item := by
    intro X hP hw hK hc i pins s σ H E I hf st hg
    subst hP hw hK
    obtain ⟨⟨old, he⟩, hit, hne⟩ := st
    obtain ⟨xs, x, hq, hx⟩ := hg
    obtain ⟨its, rv, p, hz⟩ := I.tuple hq
    obtain ⟨u, hu, ru⟩ := rv.get hx
    have hel : e < s.heap.objs.size := Heap.lt_size he
    have hil : it < s.heap.objs.size := by obtain ⟨_, q, _⟩ := hit; exact Heap.lt_size q
    have hlt : i < its.toArray.size := by
      have := (List.getElem?_eq_some_iff.mp hu).1
      simpa using this
    refine wpAny_pyNext_enum_itemD (Draws.tuple (prog := X.prog) (w := X.w) (A := X.A.in1) (show X.A.in1.handled = none from I.ok.hd hc) it a hia its.toArray) he ⟨hit, p⟩ hlt hne (by simp [hne, hea]) fun u' h' tk hu' ho hit' hT hsz hk => ?_
    have e1 : u' = u := by
      have h2 : its.toArray[i]? = some u := by simpa using hu
      rw [h2] at hu'
      exact (Option.some.inj hu').symm
    subst e1
    refine ⟨_, rfl, wpAny_letOwnedTupleGo_enum (s := { s with heap := h', toks := tk + 1 }) ho fun h'' he' sb => ?_⟩
    have hT2 : h''.get? s.heap.objs.size = some { cls := .type "tuple", data := .seq #[.int i tk, u'] } := (sb.2 _ (Nat.ne_of_gt hel)).trans hT
    have new : ObjOk X.prog X.w (upd H s.heap.objs.size (.tup [.int (i : Nat), x])) h'' s.heap.objs.size (.tup [.int (i : Nat), x]) :=
      ⟨by show 2 ≤ sizeLine; decide, [.int i tk, u'], .cons ⟨_, rfl⟩ (.cons ru .nil), ⟨_, hT2, rfl, _, rfl⟩⟩
    have I1 : Inv X pins σ (upd H s.heap.objs.size (.tup [.int (i : Nat), x])) { s with heap := h'', toks := tk + 1 } :=
      I.turnedNew (ch := [e, it]) (fun b ob hb q => (sb.2 b (fun z => hb (by simp [z]))).trans (hk b ob (fun z => hb (by simp [z])) (fun z => hb (by simp [z])) q)) hf (Nat.le_refl _) new
    refine ⟨.ref s.heap.objs.size, _, I1, rfl, ⟨_, x, rfl, I.hok.fresh (Nat.le_refl _), rfl, fun ys hy => by rw [I.tuple_inj hy hq]; exact hx⟩, ⟨⟨u', ?_⟩, hit'.1.at fun o q => (sb.2 it (Ne.symm hne)).trans q, hne⟩, fun b hb => ?_⟩
    · have e1 : ((i + 1 : Nat) : Int) = (i : Int) + 1 := by omega
      rw [e1]; exact he'
    · have hb' : b < s.heap.objs.size := by
        have e' : b = e ∨ b = it := by simpa using hb
        rcases e' with rfl | rfl
        · exact hel
        · exact hil
      rw [upd_ne (Nat.ne_of_lt hb')]
      exact (hf b hb).1
  done := by
    intro X hP hw hK hc i pins s σ H E I hf st hg
    subst hP hw hK
    obtain ⟨⟨old, he⟩, hit, hne⟩ := st
    obtain ⟨xs, hq, hx⟩ := hg
    obtain ⟨its, rv, p, hz⟩ := I.tuple hq
    obtain ⟨f0, f1, f2, f3, f4, f5⟩ := hf it (by simp)
    have hl := rv.length
    have hn : i = its.toArray.size := by simp; omega
    subst hn
    exact wpAny_pyNext_enum_endD (Draws.tuple (prog := X.prog) (w := X.w) (A := X.A.in1) (show X.A.in1.handled = none from I.ok.hd hc) it a hia its.toArray) he ⟨hit, p⟩ fun h' eb => ⟨rfl, I.turned (t' := s.toks) (fun b o hb q => eb b o hb q) f0 f1 f3 f4 f5⟩
  self := fun A i s Q E st h => let ⟨⟨_, he⟩, _⟩ := st; wpAny_pyIter_enum he h
def iEnT (K : PySem.W.Frag) (ta : TA) : TI := fun σ H R => ta σ H fun vs H1 => ∃ a xs, vs = [.ref a] ∧ SqT K H1 a xs ∧ R (IteT K a) H1
theorem pi_enT {X : Cx} {e : Expr} {ta : TA} {p pos tpos : Pos} {elts : List Expr} {kk : Nat} (hg : Gl X "enumerate") (hm : X.mg "enumerate" = none) (ha : PA X [e] ta) (hs : starEach [e] X.env = [(false, eval e X.env)]) :
    PI X (.Tuple elts kk tpos) (.Call (.Name "enumerate" p) [e] [] pos) (iEnT X.K ta) :=
  ⟨fun pins s σ H R I h => Call_ (ld_blt I hg hm boot_enumerate (PyProof.Rows.callWith_type1 (thn (ha.run pos pins s σ H _ I h) fun us s1 h1 => by
    obtain ⟨vs, H1, I1, r1, a, xs, ex, hq, q⟩ := h1
    subst ex
    cases r1 with
    | cons r rr =>
      cases rr
      cases r
      obtain ⟨its, rv, tp, hz⟩ := I1.tuple hq
      have hlt : a < s1.heap.objs.size := by obtain ⟨o, ho, _⟩ := id tp; exact Heap.lt_size ho
      refine en_call (begins_tuple a its.toArray) tp fun h' he hit hsz hk => wpAny_pyIter_enum he ?_
      have I2 : Inv X pins σ H1 { s1 with heap := h' } := I1.kept (t' := s1.toks) hk
      refine ⟨s1.heap.objs.size + 1, [s1.heap.objs.size + 1, s1.heap.objs.size], _, _, H1, rfl, I2, turn_enT a (s1.heap.objs.size + 1) s1.heap.objs.size (Nat.ne_of_gt (Nat.lt_succ_of_lt hlt)) (Nat.ne_of_lt hlt), ⟨⟨.none, he⟩, ⟨_, hit, rfl, rfl⟩, Nat.succ_ne_self _⟩, fun b hb => ?_, q⟩
      have hle : s1.heap.objs.size ≤ b := by
        have e' : b = s1.heap.objs.size + 1 ∨ b = s1.heap.objs.size := by simpa using hb
        rcases e' with z | z
        · rw [z]; exact Nat.le_succ _
        · rw [z]; exact Nat.le_refl _
      exact I1.fpOk hle (I1.hok.fresh hle)) hs rfl))⟩
theorem walk_enT {K : PySem.W.Frag} {a : Addr} {xs : List V} : Walk (IteT K a) xs.length (fun H => SqT K H a xs) (YPair (fun i => some (.int (i : Nat))) fun i => xs[i]?) :=
  ⟨fun i _ hi q => ⟨xs, xs[i], q, by simp [hi]⟩, fun _ q => ⟨xs, q, rfl⟩, fun _ _ _ _ _ q y => by
    obtain ⟨T, x, h1, h2, h3, h4⟩ := y
    exact ⟨T, _, x, h1, h2, h3, rfl, h4 xs q⟩⟩
end
end PV

namespace PV
open PySem PySem.Spec L2

/-! ### set(xs) of ints, sorted(set(xs)) -/
section
open PyProof.Rows
variable {P : Program} {w : World} {A : Around} {E : Value → Shared → Prop} {s : Shared}
/-- a new set's cell -/
abbrev seO (w : World) : Obj := { cls := .type "set", dict := none, data := .set #[] 0 (.fresh 0 0 (!w.params.followText "set-order")) }
end
section
variable {X : Cx}
/-- set(xs): a list or a tuple of ints -/
def rSetI (w : World) (K : PySem.W.Frag) : List V → Hp → VK → Prop := fun vs H Q => ∃ (a : Addr) (ns : List Int), vs = [V.ref a] ∧ (SqL K H a (ns.map V.int) ∨ SqT K H a (ns.map V.int)) ∧ ns.length + 1 < scanBound ∧
  ∀ (p : Addr) (c : Nat), c ≤ ns.length → H p = none → Q (.ref p) (upd H p (SetO w p (fun j => decide (j ∈ ns)) c))
end
end PV

namespace PV
open PySem PySem.Spec L2
section
variable {G : Gx} {W : WX} {pr : Addr → Prop} {io : List (Nat × V)} {σ : L2.St} {s s1 : Sx} {ios : List Nat} {Q : VK} {X : Cx} {a b c : Expr} {pos p p2 q2 : Pos} {x : Str} {ga gb gc : Ev}
/-- the ascending members, each once -/
def usort (ns : List Int) : List Int := isort ns.eraseDups
/-- sorted(set(xs)) -/
def ssD (xs : List D) : Option Tm := match intsD xs with
  | some ns => if ns.length < 64 then some (.v .O (.lst ((usort ns).map .int))) else none
  | none => none
def opSS (t : Tm) : Option Tm := match toD t with
  | .lst xs => ssD xs
  | .tup xs => ssD xs
  | .kt => some (.v .O (.lst []))
  | _ => none
def eSortSet : Ev → Ev := eOp1 opSS
end
end PV

namespace PV
open PySem PySem.Spec L2
/-! ### comprehensions with two fors: the second one over range(n) -/
section
variable {G : Gx} {W : WX} {pr : Addr → Prop} {io : List (Nat × V)} {σ : L2.St} {s s1 : Sx} {ios : List Nat} {X : Cx} {a b c e tg : Expr} {pos p : Pos} {ga gb gc : Ev}
/-- a loop by a walk -/
theorem loop_it {J : It} {n : Nat} {Gd : Hp → Prop} {Y : Nat → Hp → V → Hp → Prop} (w : Walk J n Gd Y) (I : Nat → Hp → Prop) {H0 : Hp} {QQ : Hp → Prop} {T : (Hp → Prop) → V → Hp → Prop} (h0 : I 0 H0) (hg : ∀ i H, i ≤ n → I i H → Gd H)
    (hs : ∀ i x H H', i < n → I i H → Y i H x H' → T (I (i + 1)) x H') (he : ∀ H, I n H → QQ H) :
    ∃ W : Nat → Nat → Hp → Prop, (∃ m, W 0 m H0) ∧ ∀ i m H, W i m H → (J.stop i H ∧ QQ H) ∨ (J.go i H ∧ ∃ Nx : Hp → Prop, (∀ H', Nx H' → ∃ m', m' < m ∧ W (i + 1) m' H') ∧ ∀ x H', J.yld i H x H' → T Nx x H') := by
  refine ⟨fun i m H => m = n - i ∧ i ≤ n ∧ I i H, ⟨n, by simp, Nat.zero_le _, h0⟩, ?_⟩
  rintro i m H ⟨rfl, hi, q⟩
  have g := hg i H hi q
  rcases Nat.lt_or_ge i n with h | h
  · exact .inr ⟨w.goes i H h g, I (i + 1), fun H' q' => ⟨n - (i + 1), by omega, rfl, h, q'⟩, fun x H' y => hs i x H H' h q (w.yields i H x H' h g y)⟩
  · have e : i = n := Nat.le_antisymm hi h
    subst e
    exact .inl ⟨w.stops H g, he H q⟩
/-- the list that is made at L holds acc -/
structure Acc (G : Gx) (L : Addr) (s : Sx) (acc : List D) (accv : List V) : Prop where
  at' : s.H L = some (.lst accv)
  rep : Reps G s.H s.fz acc accv
  nf : ¬ s.fz L
  no : L ∉ s.os
theorem Acc.on {L : Addr} {acc : List D} {accv : List V} {s5 : Sx} (h : Acc G L s acc accv) (r : SR G pr io σ s) (x : Ext s s5) : Acc G L s5 acc accv where
  at' := x.keep _ _ h.at' h.no
  rep := Reps.keep x.fz (fun a o p e => x.keep a o e fun z => (r.sep a z).1 p) x.tk _ _ h.rep
  nf := fun z => by
    rcases x.fzo L z with k | k | k
    · exact h.nf k
    · exact h.no k
    · rw [h.at'] at k; cases k
  no := fun z => by
    rcases x.oso L z with k | k
    · exact h.no k
    · rw [h.at'] at k; cases k
theorem Acc.less {L : Addr} {acc : List D} {accv : List V} {os' : List Addr} {ρ : Ss} (h : Acc G L s acc accv) (ha : ∀ a ∈ os', a ∈ s.os) : Acc G L { s with ρ := ρ, os := os' } acc accv := ⟨h.at', h.rep, h.nf, fun z => h.no (ha _ z)⟩
/-- one turn of a comprehension's innermost for; s1: ahead of the list's making -/
theorem comp_turn {vs tv : List Nat} {tgt : Tg} {test elt : Ev} {L : Addr} {s3 : Sx} {ρi : Ss} {acc dsr : List D} {accv : List V} {t : Tm} {x : V} {rest : List Tm} {ρfin : Ss} {Nx : Hp → Prop}
    (hi : io.map Prod.fst = ios) (htv : ∀ i ∈ tv, i ∈ vs) (hio' : ∀ v ∈ vs, v ∉ io.map Prod.fst) (prL : ¬ pr L) (hL : s1.H L = none) (x3 : Ext s1 s3) (r3 : SR G pr io (L2.wipe σ vs) s3) (eρ : s3.ρ = wipeS ρi vs) (hA : Acc G L s3 acc accv)
    (p3 : Tp G pr (L2.wipe σ vs) s3 t x []) (hcomp : compL tgt test elt vs (t :: rest) ρi = some (dsr, ρfin)) (hds : (acc ++ dsr).length ≤ sizeLine)
    (next : ∀ (s7 : Sx) (ρ7 : Ss) (acc' dsr' : List D) (accv' : List V), s7.ρ = wipeS ρ7 vs → SR G pr io (L2.wipe σ vs) s7 → Ext s1 s7 → Acc G L s7 acc' accv' → compL tgt test elt vs rest ρ7 = some (dsr', ρfin) → acc' ++ dsr' = acc ++ dsr → Nx s7.H) :
    gTg G ios tv tgt x (L2.wipe σ vs) s3.H fun σ2 H2 => L2.wipe σ2 vs = L2.wipe σ vs ∧ tTest (tEv G W0 ios test) σ2 H2 fun b H3 =>
      if b = true then tEv G W0 ios elt σ2 H3 fun y H4 => ∃ acc, H4 L = some (.lst acc) ∧ acc.length < sizeLine ∧ Nx (upd H4 L (.lst (acc ++ [y]))) else Nx H3 := by
  simp only [compL] at hcomp
  refine ⟨pr, io, s3, s3, t, [], rfl, hi, r3, Ext.refl _, p3, Frs.nil, ?_⟩
  rw [eρ]
  cases etg : tgt t (wipeS ρi vs) with
  | none => rw [etg] at hcomp; cases hcomp
  | some ρ1 =>
    rw [etg] at hcomp
    dsimp only at hcomp ⊢
    intro σ4 s4 e5 r4 x4 out4
    subst e5
    have wip : L2.wipe σ4 vs = L2.wipe σ vs := wipe_wipe (out4.1.trans (L2.wipe_length σ vs)) fun i hni => by
      rw [out4.2 i fun z => hni (htv i z), wipe_get hni]
    refine ⟨wip, ?_⟩
    cases ete : test s4.ρ with
    | no => rw [ete] at hcomp; cases hcomp
    | ex e ρ => rw [ete] at hcomp; cases hcomp
    | ok tb ρ2 =>
      rw [ete] at hcomp
      dsimp only at hcomp
      refine tEv_of hi r4 ?_
      rw [ete]
      intro vb s5 otb e6 r5 x5 p5 f5
      subst e6
      cases eb : asB tb with
      | none => rw [eb] at hcomp; cases hcomp
      | some bb =>
        rw [eb] at hcomp
        refine ⟨bb, asB_of p5 eb, ?_⟩
        have x35 : Ext s3 s5 := x4.trans x5
        have A5 := hA.on r3 x35
        cases bb with
        | false =>
          dsimp only at hcomp
          refine L2.iteF ?_
          obtain ⟨os', ra, ha⟩ := r5.wipe hio'
          rw [wip] at ra
          exact next { s5 with ρ := wipeS s5.ρ vs, os := os' } s5.ρ acc dsr accv rfl ra ((x3.trans x35).less ha) (A5.less ha) hcomp rfl
        | true =>
          dsimp only at hcomp
          refine L2.iteT ?_
          cases eel : elt s5.ρ with
          | no => rw [eel] at hcomp; cases hcomp
          | ex e ρ => rw [eel] at hcomp; cases hcomp
          | ok tx ρ3 =>
            rw [eel] at hcomp
            dsimp only at hcomp
            refine tEv_of hi r5 ?_
            rw [eel]
            intro vx s6 ox e7 r6 x6 p6 f6
            subst e7
            cases efz : frz tx with
            | none => rw [efz] at hcomp; cases hcomp
            | some d =>
              rw [efz] at hcomp
              dsimp only at hcomp
              cases erc : compL tgt test elt vs rest s6.ρ with
              | none => rw [erc] at hcomp; cases hcomp
              | some q2 =>
                obtain ⟨dsr2, ρf2⟩ := q2
                rw [erc] at hcomp
                simp only [Option.some.injEq, Prod.mk.injEq] at hcomp
                obtain ⟨e8, e9⟩ := hcomp
                subst e9
                have A6 := A5.on r5 x6
                have nox : L ∉ ox := fun z => by
                  rcases f6 L z with k | k
                  · exact A5.no k
                  · rw [A5.at'] at k; cases k
                have nlc : ∀ i, tx ≠ .loc i := fun i z => by subst z; simp [PV.frz] at efz
                have r7 := r6.frzO (ot := ox) p6.rel.own p6.sep
                have x7 : Ext s5 (s6.frz ox s6.ρ s6.os) := x6.frzO f6
                have hd : Rep G s6.H (fun a => s6.fz a ∨ a ∈ ox) d vx := TmR.frz _ _ _ _ (tm_of p6.rel nlc) efz
                have hacc7 : Reps G s6.H (fun a => s6.fz a ∨ a ∈ ox) acc accv := A6.rep.mono fun a p => .inl p
                have nf7 : ¬ (s6.fz L ∨ L ∈ ox) := fun z => z.elim A6.nf nox
                obtain ⟨r8, tk8⟩ := SR.updD (s := s6.frz ox s6.ρ s6.os) (o := .lst (accv ++ [vx])) r7 nf7 prL A6.no (fun ws z => by rw [show (s6.frz ox s6.ρ s6.os).H L = some (.lst accv) from A6.at'] at z; cases z) fun o u z => by rw [show (s6.frz ox s6.ρ s6.os).H L = some (.lst accv) from A6.at'] at z; cases z
                obtain ⟨os', ra, ha⟩ := r8.wipe hio'
                rw [wip] at ra
                have hlen : accv.length = acc.length := hacc7.len.symm
                have hsz : accv.length < sizeLine := by
                  rw [List.length_append, ← e8, List.length_cons] at hds
                  omega
                refine ⟨accv, A6.at', hsz, next _ s6.ρ (acc ++ [d]) dsr2 (accv ++ [vx]) rfl ra ?_ ⟨upd_same, ?_, nf7, fun z => A6.no (ha _ z)⟩ erc (by rw [← e8]; simp)⟩
                · have x18 : Ext s1 (s6.frz ox s6.ρ s6.os) := (x3.trans x35).trans x7
                  refine ⟨fun a o e n => ?_, fun a h => ?_, x18.tk.trans tk8, x18.fz, x18.fzo, fun a z => x18.oso a (ha a z)⟩
                  · show upd _ _ _ _ = _
                    rw [upd_ne (ne_of_none e hL)]
                    exact x18.keep a o e n
                  · show upd _ _ _ _ ≠ none
                    by_cases z : a = L
                    · subst z; rw [upd_same]; simp
                    · rw [upd_ne z]; exact x18.dom a h
                · have kp : ∀ a o, (s6.fz a ∨ a ∈ ox) → s6.H a = some o → (upd s6.H L (.lst (accv ++ [vx]))) a = some o := fun a o p e => by
                    rw [upd_ne (by rintro rfl; exact nf7 p)]; exact e
                  refine (Reps.keep (fun _ h => h) kp tk8 _ _ hacc7).app ?_
                  simp only [Reps]
                  exact ⟨vx, [], rfl, Rep.keep (fun _ h => h) kp tk8 _ _ hd, rfl⟩

/-- for t in ..: for u in range(n): the parts -/
def compR (tgt : Tg) (gn : Ev) (tgt1 : Tg) (elt : Ev) (vs vs1 : List Nat) : List Tm → Ss → Option (List D × Ss)
  | [], ρ => some ([], wipeS ρ vs)
  | t :: ts, ρ => match tgt t (wipeS ρ vs) with
    | some ρ1 => match gn ρ1 with
      | .ok n ρ2 => match asI n with
        | some j => if -(2 ^ 62) ≤ j ∧ j < 2 ^ 62 then match compL tgt1 eTrue elt vs1 (rngL 0 j.toNat) ρ2 with
            | some (ds1, ρ3) => match compR tgt gn tgt1 elt vs vs1 ts ρ3 with
              | some (ds, ρ4) => some (ds1 ++ ds, ρ4)
              | none => none
            | none => none
          else none
        | none => none
      | _ => none
    | none => none
def eCompR (it : Iv) (vs : List Nat) (tgt : Tg) (gn : Ev) (vs1 : List Nat) (tgt1 : Tg) (elt : Ev) : Ev := fun ρ => match it ρ with
  | .ok ts ρ1 => if vs.all (hideOk ρ1) = true then match compR tgt gn tgt1 elt vs vs1 ts ρ1 with
    | some (ds, ρ2) => if ds.length ≤ sizeLine then .ok (.v .O (.lst ds)) (restS ρ1 ρ2 vs) else .no
    | none => .no
    else .no
  | .ex e ρ1 => .ex e ρ1
  | .no => .no
theorem compR_read {wi : TI} {it : Iv} {vs vs1 tv tv1 : List Nat} {tgt tgt1 : Tg} {gn elt : Ev} (hwi : wi = tIv G W ios it) (htv : ∀ i ∈ tv, i ∈ vs) (htv1 : ∀ i ∈ tv1, i ∈ vs1) (hv1 : ∀ i ∈ vs1, i ∈ vs) (hio : ∀ v ∈ vs, v ∉ ios) {H : Hp} {Q : VK} (q : tEv G W ios (eCompR it vs tgt gn vs1 tgt1 elt) σ H Q) :
    tLc2 wi (gTg G ios tv tgt) (tTest (tEv G W0 ios eTrue)) (iRng1 (tCons (tEv G W0 ios gn) tNil)) (gTg G ios tv1 tgt1) (tTest (tEv G W0 ios eTrue)) (tEv G W0 ios elt) vs vs1 σ H Q := by
  subst hwi
  obtain ⟨pr, io, s, rfl, hi, r, q⟩ := of_tEv q
  unfold eCompR at q
  refine ⟨pr, io, s, rfl, hi, r, ?_⟩
  cases eit : it s.ρ with
  | no => rw [eit] at q; exact q.elim
  | ex e ρ' => rw [eit] at q; exact q
  | ok ts ρ' =>
    rw [eit] at q
    dsimp only at q ⊢
    intro J s1 e1 r1 x1 ⟨Gd, Y, w, hw⟩
    subst e1
    by_cases hv : vs.all (hideOk s1.ρ) = true
    · rw [if_pos hv] at q
      cases ec : compR tgt gn tgt1 elt vs vs1 ts s1.ρ with
      | none => rw [ec] at q; exact q.elim
      | some res =>
        obtain ⟨ds, ρfin⟩ := res
        rw [ec] at q
        dsimp only at q
        by_cases hds : ds.length ≤ sizeLine
        · rw [if_pos hds] at q
          intro L hL
          have fr := r1.fresh hL
          have hio' : ∀ v ∈ vs, v ∉ io.map Prod.fst := by rw [hi]; exact hio
          have hio1 : ∀ v ∈ vs1, v ∉ io.map Prod.fst := fun v hv2 => hio' v (hv1 v hv2)
          refine loop_it w (fun i H2 => ∃ s2 ρi acc accv dsr, s2.H = H2 ∧ s2.ρ = wipeS ρi vs ∧ SR G pr io (L2.wipe σ vs) s2 ∧ Ext s1 s2 ∧ Acc G L s2 acc accv ∧ compR tgt gn tgt1 elt vs vs1 (ts.drop i) ρi = some (dsr, ρfin) ∧ acc ++ dsr = ds) ?_ ?_ ?_ ?_
          · obtain ⟨os', ra, ha⟩ := r1.wipe hio'
            refine ⟨Sx.new { s1 with ρ := wipeS s1.ρ vs, os := os' } L (.lst []), s1.ρ, [], [], ds, rfl, rfl, SR.new ra hL _, ?_, ⟨upd_same, by simp [Reps], fr.1, fun z => fr.2.2 (ha _ z)⟩, by simpa using ec, rfl⟩
            exact ((Ext.refl s1).less ha).trans (Ext.new (s := { s1 with ρ := wipeS s1.ρ vs, os := os' }) hL _)
          · rintro i H2 _ ⟨s2, ρi, acc, accv, dsr, rfl, _, r2, x2, _⟩
            exact (hw s2 _ r2 x2).1
          · rintro i x H2 H' hlt ⟨s2, ρi, acc, accv, dsr, rfl, eρ, r2, x2, hA, hcomp, hcat⟩ y
            obtain ⟨s3, t, rfl, e3, r3, x3, e4, p3⟩ := (hw s2 _ r2 x2).2 i x H' hlt y
            have ed : ts.drop i = t :: ts.drop (i + 1) := by
              rw [List.drop_eq_getElem_cons hlt]
              rw [List.getElem?_eq_getElem hlt] at e4
              cases e4
              rfl
            rw [ed] at hcomp
            simp only [compR] at hcomp
            refine ⟨pr, io, s3, s3, t, [], rfl, hi, r3, Ext.refl _, p3, Frs.nil, ?_⟩
            rw [e3, eρ]
            cases etg : tgt t (wipeS ρi vs) with
            | none => rw [etg] at hcomp; cases hcomp
            | some ρ1 =>
              rw [etg] at hcomp
              dsimp only at hcomp ⊢
              intro σ4 s4 e5 r4 x4 out4
              subst e5
              have same : ∀ i, i ∉ vs → σ4[i]? = σ[i]? := fun i hni => by rw [out4.2 i fun z => hni (htv i z), wipe_get hni]
              have len4 : σ4.length = σ.length := out4.1.trans (L2.wipe_length σ vs)
              have wip : L2.wipe σ4 vs = L2.wipe σ vs := wipe_wipe len4 same
              refine ⟨wip, ?_⟩
              refine tEv_of hi r4 ?_
              intro vb s5 otb e6 r5 x5 p5 f5
              refine ⟨true, asB_of p5 rfl, ?_⟩
              refine L2.iteT ?_
              have A5 := hA.on r2 ((x3.trans x4).trans x5)
              cases egn : gn s4.ρ with
              | no => rw [egn] at hcomp; cases hcomp
              | ex e ρ => rw [egn] at hcomp; cases hcomp
              | ok tn ρ2 =>
                rw [egn] at hcomp
                dsimp only at hcomp
                refine tEv_of hi r5 ?_
                rw [e6, egn]
                intro vn s6 otn e7 r6 x6 p6 f6
                subst e7
                cases ej : asI tn with
                | none => rw [ej] at hcomp; cases hcomp
                | some j =>
                  rw [ej] at hcomp
                  dsimp only at hcomp
                  by_cases hb : -(2 ^ 62) ≤ j ∧ j < 2 ^ 62
                  · rw [if_pos hb] at hcomp
                    have ev := asI_of p6 ej
                    subst ev
                    refine ⟨j, rfl, hb.1, hb.2, ?_⟩
                    cases ec1 : compL tgt1 eTrue elt vs1 (rngL 0 j.toNat) s6.ρ with
                    | none => rw [ec1] at hcomp; cases hcomp
                    | some q1 =>
                      obtain ⟨ds1, ρ4⟩ := q1
                      rw [ec1] at hcomp
                      dsimp only at hcomp
                      cases ec2 : compR tgt gn tgt1 elt vs vs1 (ts.drop (i + 1)) ρ4 with
                      | none => rw [ec2] at hcomp; cases hcomp
                      | some q2 =>
                        obtain ⟨dsr2, ρf2⟩ := q2
                        rw [ec2] at hcomp
                        simp only [Option.some.injEq, Prod.mk.injEq] at hcomp
                        obtain ⟨e8, e9⟩ := hcomp
                        subst e9
                        have A6 := A5.on r5 x6
                        have x16 : Ext s1 s6 := (((x2.trans x3).trans x4).trans x5).trans x6
                        obtain ⟨Gd1, Y1, w1, hw1⟩ := walk_rng (G := G) (pr := pr) (io := io) (s1 := s1) (lo := 0) (n := j.toNat)
                        rw [rngL_len] at w1
                        have hl1 : (acc ++ ds1).length ≤ sizeLine := by
                          have : (acc ++ dsr).length ≤ sizeLine := by rw [hcat]; exact hds
                          rw [← e8] at this
                          simp only [List.length_append] at this ⊢
                          omega
                        refine loop_it w1 (fun k H2 => ∃ s2 ρk acc' accv' dsr', s2.H = H2 ∧ s2.ρ = wipeS ρk vs1 ∧ SR G pr io (L2.wipe σ4 vs1) s2 ∧ Ext s1 s2 ∧ Acc G L s2 acc' accv' ∧ compL tgt1 eTrue elt vs1 ((rngL 0 j.toNat).drop k) ρk = some (dsr', ρ4) ∧ acc' ++ dsr' = acc ++ ds1) ?_ ?_ ?_ ?_
                        · obtain ⟨os', ra, ha⟩ := r6.wipe hio1
                          exact ⟨{ s6 with ρ := wipeS s6.ρ vs1, os := os' }, s6.ρ, acc, accv, ds1, rfl, rfl, ra, x16.less ha, A6.less ha, by simpa using ec1, rfl⟩
                        · rintro k H2 _ ⟨s2, ρk, acc', accv', dsr', rfl, _, r2, x2, _⟩
                          exact (hw1 s2 _ r2 x2).1
                        · rintro k x H2 H' hlt ⟨s2, ρk, acc', accv', dsr', rfl, eρ, r2, x2, hA, hcomp, hcat'⟩ y
                          obtain ⟨s3, t, rfl, e3, r3, x3, e4, p3⟩ := (hw1 s2 _ r2 x2).2 k x H' (by rw [rngL_len]; exact hlt) y
                          have hlt' : k < (rngL 0 j.toNat).length := by rw [rngL_len]; exact hlt
                          have ed : (rngL 0 j.toNat).drop k = t :: (rngL 0 j.toNat).drop (k + 1) := by
                            rw [List.drop_eq_getElem_cons hlt']
                            rw [List.getElem?_eq_getElem hlt'] at e4
                            cases e4
                            rfl
                          rw [ed] at hcomp
                          refine comp_turn (ρi := ρk) (rest := (rngL 0 j.toNat).drop (k + 1)) hi htv1 hio1 fr.2.1 hL (x2.trans x3) r3 (e3.trans eρ) (hA.on r2 x3) p3 hcomp (by rw [hcat']; exact hl1) fun s7 ρ7 acc2 dsr2 accv2 h1 h2 h3 h4 h5 h6 => ?_
                          exact ⟨s7, ρ7, acc2, accv2, dsr2, rfl, h1, h2, h3, h4, h5, h6.trans hcat'⟩
                        · rintro H2 ⟨s2, ρk, acc', accv', dsr', rfl, eρ, r2, x2, hA, hcomp, hcat'⟩
                          rw [List.drop_of_length_le (by rw [rngL_len]; exact Nat.le_refl _)] at hcomp
                          simp only [compL, Option.some.injEq, Prod.mk.injEq] at hcomp
                          obtain ⟨h5, h6⟩ := hcomp
                          subst h5
                          rw [List.append_nil] at hcat'
                          subst hcat'
                          obtain ⟨os', ra, ha⟩ := r2.wipe hio'
                          have wip2 : L2.wipe (L2.wipe σ4 vs1) vs = L2.wipe σ vs := wipe_wipe ((L2.wipe_length _ _).trans len4) fun i hni => by
                            rw [wipe_get fun z => hni (hv1 i z)]
                            exact same i hni
                          rw [wip2] at ra
                          refine ⟨{ s2 with ρ := wipeS s2.ρ vs, os := os' }, ρ4, _, accv', dsr2, rfl, ?_, ra, x2.less ha, hA.less ha, ec2, ?_⟩
                          · show wipeS s2.ρ vs = wipeS ρ4 vs
                            rw [eρ, h6]
                          · rw [List.append_assoc, e8]
                            exact hcat
                  · rw [if_neg hb] at hcomp; cases hcomp
          · rintro H2 ⟨s2, ρi, acc, accv, dsr, rfl, eρ, r2, x2, hA, hcomp, hcat⟩
            rw [List.drop_length] at hcomp
            simp only [compR, Option.some.injEq, Prod.mk.injEq] at hcomp
            obtain ⟨e5, e6⟩ := hcomp
            subst e5 e6
            rw [List.append_nil] at hcat
            subst hcat
            rw [← eρ] at q
            obtain ⟨os', ra, ha⟩ := SR.rest r1 x2 hv r2
            refine q (.ref L) { s2 with ρ := restS s1.ρ s2.ρ vs, os := os' } [L] rfl ra ((x1.trans x2).less ha) ⟨?_, by simp, fun a hm => ?_⟩ fun a hm => ?_
            · show TmR _ _ _ _ _ _ _
              simp only [TmR, RepO]
              exact ⟨L, accv, rfl, rfl, hA.at', hA.rep⟩
            · rw [List.mem_singleton] at hm; subst hm
              exact ⟨hA.nf, fr.2.1, fun z => hA.no (ha _ z)⟩
            · rw [List.mem_singleton] at hm; subst hm
              exact .inr (x1.back hL)
        · rw [if_neg hds] at q; exact q.elim
    · rw [if_neg hv] at q; exact q.elim
variable {elt iter tg1 bn : Expr} {scope : Scope} {own : List (Str × Nat)} {spos py p1 p2 : Pos} {it : Iv} {tgt tgt1 : Tg} {gn gel : Ev} {tv tv1 vs1 : List Nat}
theorem v_compR (hc : X.calm = true) (hN : X.N.Nodup) (hit : PIv X G W ios tg iter it) (ok : BlkOk X.N X.env.scope scope own) (hv1 : ∀ i ∈ vs1, i ∈ own.map (·.2))
    (hg : ∀ (s : Shared) (H : Hp) (C : Addr) (cl : List (Str × Addr)) (fp : List Addr), PGv (X.blk s H scope (compEnvC scope cl C X.env) fp) G ios tv tg tgt)
    (hn : ∀ (s : Shared) (H : Hp) (C : Addr) (cl : List (Str × Addr)) (fp : List Addr), PI (X.blk s H scope (compEnvC scope cl C X.env) fp) tg1 (.Call (.Name "range" p1) [bn] [] p2) (iRng1 (tCons (tEv G W0 ios gn) tNil)))
    (hg1 : ∀ (s : Shared) (H : Hp) (C : Addr) (cl : List (Str × Addr)) (fp : List Addr), PGv (X.blk s H scope (compEnvC scope cl C X.env) fp) G ios tv1 tg1 tgt1)
    (he : ∀ (s : Shared) (H : Hp) (C : Addr) (cl : List (Str × Addr)) (fp : List Addr), PEv (X.blk s H scope (compEnvC scope cl C X.env) fp) G W0 ios elt gel) (htv : ∀ i ∈ tv, i ∈ own.map (·.2)) (htv1 : ∀ i ∈ tv1, i ∈ vs1) (hio : ∀ v ∈ own.map (·.2), v ∉ ios) (hs : ∀ x, foldedSetIterable iter X.env x = pure x := by intro _; rfl) :
    PEv X G W ios (.ListComp elt [⟨tg, iter, [], 0⟩, ⟨tg1, .Call (.Name "range" p1) [bn] [] p2, [], 0⟩] scope pos) (eCompR it (own.map (·.2)) tgt gn vs1 tgt1 gel) :=
  pe_imp (pe_lc2 hc hN hit ok hv1 hg (fun _ _ _ _ _ => t_yes) hn hg1 (fun _ _ _ _ _ => t_yes) he hs) fun _ _ _ q => compR_read rfl htv htv1 hv1 hio q
end
end PV

namespace PV
open PySem PySem.Spec L2
/-! ### enumerate, zip -/
section
variable {G : Gx} {W : WX} {pr : Addr → Prop} {io : List (Nat × V)} {σ : L2.St} {s s1 s2 : Sx} {ios : List Nat} {X : Cx} {a b c e tg : Expr} {pos p tpos : Pos} {kk : Nat} {elts : List Expr} {ga gb gc : Ev}
/-- pairs -/
abbrev pairD (x y : D) : D := .tup [x, y]
/-- the items with their numbers -/
def enumD (n : Nat) : List D → List D
  | [] => []
  | x :: xs => pairD (.int n) x :: enumD (n + 1) xs
theorem enumD_len : ∀ (xs : List D) (n : Nat), (enumD n xs).length = xs.length
  | [], n => rfl
  | x :: xs, n => by simp [enumD, enumD_len xs]
theorem enumD_at : ∀ (xs : List D) (n i : Nat) (x : D), xs[i]? = some x → (enumD n xs)[i]? = some (pairD (.int ((n + i : Nat) : Int)) x)
  | [], n, i, x, h => by simp at h
  | y :: xs, n, 0, x, h => by
    simp only [List.getElem?_cons_zero, Option.some.injEq] at h
    subst h
    rfl
  | y :: xs, n, i + 1, x, h => by
    simp only [List.getElem?_cons_succ] at h
    have := enumD_at xs (n + 1) i x h
    rw [show n + 1 + i = n + (i + 1) by omega] at this
    exact this
def itemsEn : Tm → Option (List Tm)
  | .v k (.tup xs) => some ((enumD 0 xs).map (subK k))
  | _ => none
/-- for .. in enumerate(a tuple) -/
def itEnT (g : Ev) : Iv := fun ρ => (g ρ).bindL fun t ρ1 => match itemsEn t with
  | some ts => .ok ts ρ1
  | none => .no
/-- a new pair of two parts -/
theorem new_pair {k : Kd} {x y : D} {u w : V} {T : Addr} (r2 : SR G pr io σ s2) (hT : s2.H T = none) (hx : Rep G s2.H (if k = .B then fun a => s2.fz a ∨ pr a else s2.fz) x u) (hy : Rep G s2.H (if k = .B then fun a => s2.fz a ∨ pr a else s2.fz) y w) :
    Tp G pr σ (s2.new T (.tup [u, w])) (subK k (pairD x y)) (.ref T) [] := by
  have kp : ∀ (d : D) (v : V), Rep G s2.H (if k = .B then fun a => s2.fz a ∨ pr a else s2.fz) d v → Rep G (upd s2.H T (.tup [u, w])) (if k = .B then fun a => s2.fz a ∨ pr a else s2.fz) d v := fun d v h => Rep.keep (fun _ z => z) (fun a o _ e => by show upd _ _ _ _ = _; rw [upd_ne (ne_of_none e hT)]; exact e) (tk_new hT _) _ _ h
  refine tp_sub (s := s2.new T (.tup [u, w])) ?_
  unfold pairD
  simp only [Rep, Reps]
  exact ⟨T, _, rfl, upd_same, u, [w], rfl, kp _ _ hx, w, [], rfl, kp _ _ hy, rfl⟩
theorem i_enT (hm : X.mg "enumerate" = none) (ha : PEv X G W ios a ga) (hg : Gl X "enumerate" := by rfl) (hs : starEach [a] X.env = [(false, eval a X.env)] := by rfl) : PIv X G W ios (.Tuple elts kk tpos) (.Call (.Name "enumerate" p) [a] [] pos) (itEnT ga) := by
  refine ⟨fun pins s σ H R I q => (pi_enT (tpos := tpos) hg hm (pa_cons ha pa_nil hs) hs).run pins s σ H R I ?_⟩
  obtain ⟨pr, io, s, rfl, hi, r, q⟩ := q
  show tEv G W ios ga σ s.H (fun x H1 => ∃ a xs, [x] = [.ref a] ∧ SqT X.K H1 a xs ∧ R (IteT X.K a) H1)
  refine tEv_of hi r ?_
  unfold itEnT at q
  cases eg : ga s.ρ with
  | no => rw [eg] at q; exact q.elim
  | ex e ρ' => rw [eg] at q; exact q
  | ok t ρ' =>
    rw [eg] at q
    intro v s1 ot e1 r1 x1 p1 f1
    subst e1
    simp only [Ou.bindL] at q
    cases t with
    | v k d =>
      cases d <;> simp only [itemsEn] at q
      case tup xs =>
        obtain ⟨a, vs, rfl, h1, h2⟩ := tup_all (show TmR G s1.H s1.fz pr (.v k (.tup xs)) v ot from p1.rel)
        refine ⟨a, vs, rfl, .of h1, q _ s1 rfl r1 x1 ⟨fun H => SqT X.K H a vs, YPair (fun i => some (.int (i : Nat))) (fun i => vs[i]?), ?_, fun s2 σ2 r2 x2 => ⟨SqT.of (x2.tk.1 _ _ h1), fun i x H' hlt y => ?_⟩⟩⟩
        · rw [List.length_map, enumD_len, h2.len]; exact walk_enT
        · obtain ⟨T, u, w, rfl, hT, rfl, hu, hw⟩ := y
          rw [List.length_map, enumD_len] at hlt
          cases hu
          have h2' := Tp.reps (v := .non) (ot := []) r1 h2 x2
          obtain ⟨w', hw', hd⟩ := h2'.get (List.getElem?_eq_getElem hlt)
          dsimp only at hw; rw [hw] at hw'; cases hw'
          refine ⟨s2.new T _, _, rfl, rfl, r2.new hT _, Ext.new hT _, ?_, new_pair (x := .int ((i : Nat) : Int)) r2 hT (by simp only [Rep]) hd⟩
          rw [List.getElem?_map, enumD_at _ _ _ _ (List.getElem?_eq_getElem hlt), Nat.zero_add]
          rfl
      all_goals exact q.elim
    | loc i => exact q.elim
    | tp ts => exact q.elim
    | ls ts => exact q.elim
    | ob c ts => exact q.elim
/-! zip -/
def zipD (xs ys : List D) : List D := List.zipWith pairD xs ys
def kd2 (k l : Kd) : Kd := match k, l with
  | .B, _ => .B
  | _, .B => .B
  | _, _ => .F
def itemsZip : Tm → Tm → Option (List Tm)
  | .v k (.tup xs), .v l (.tup ys) => some ((zipD xs ys).map (subK (kd2 k l)))
  | .v k (.lst xs), .v l (.lst ys) => some ((zipD xs ys).map (subK (kd2 k l)))
  | _, _ => none
def itZip (ga gb : Ev) : Iv := fun ρ => (ga ρ).bindL fun t ρ1 => (gb ρ1).bindL fun u ρ2 => match itemsZip t u with
  | some ts => .ok ts ρ2
  | none => .no
theorem kd2_l {k l : Kd} {H : Hp} {fz : Addr → Prop} {d : D} {v : V} (h : Rep G H (if k = .B then fun a => fz a ∨ pr a else fz) d v) : Rep G H (if kd2 k l = .B then fun a => fz a ∨ pr a else fz) d v := by
  refine Rep.mono (fun a p => ?_) h
  cases k <;> cases l <;> simp_all [kd2]
theorem kd2_r {k l : Kd} {H : Hp} {fz : Addr → Prop} {d : D} {v : V} (h : Rep G H (if l = .B then fun a => fz a ∨ pr a else fz) d v) : Rep G H (if kd2 k l = .B then fun a => fz a ∨ pr a else fz) d v := by
  refine Rep.mono (fun a p => ?_) h
  cases k <;> cases l <;> simp_all [kd2]
/-- a list in flight that no name owns -/
theorem lst_no {k : Kd} {xs : List D} {v : V} {ot : List Addr} (p1 : Tp G pr σ s1 (.v k (.lst xs)) v ot) (r1 : SR G pr io σ s1) : ∃ a vs, v = .ref a ∧ s1.H a = some (.lst vs) ∧ Reps G s1.H (if k = .B then fun a => s1.fz a ∨ pr a else s1.fz) xs vs ∧ a ∉ s1.os := by
  have hh : TmR G s1.H s1.fz pr (.v k (.lst xs)) v ot := p1.rel
  obtain ⟨a, vs, rfl, h1, h2⟩ := lst_all hh
  refine ⟨a, vs, rfl, h1, h2, ?_⟩
  cases k with
  | F =>
    simp only [TmR, Rep] at hh
    obtain ⟨_, b, _, eb, hb, _⟩ := hh
    cases eb
    exact fun z => (r1.sep a z).1 hb
  | B =>
    simp only [TmR, Rep] at hh
    obtain ⟨_, b, _, eb, hb, _⟩ := hh
    cases eb
    exact fun z => hb.elim (r1.sep a z).1 (r1.sep a z).2
  | O =>
    simp only [TmR, RepO] at hh
    obtain ⟨b, _, eb, hb, _⟩ := hh
    cases eb
    exact (p1.sep a (by rw [hb]; simp)).2.2
theorem i_zip (hm : X.mg "zip" = none) (ha : PEv X G W ios a ga) (hb : PEv X G W ios b gb) (hg : Gl X "zip" := by rfl) (hs : starEach [a, b] X.env = (false, eval a X.env) :: starEach [b] X.env := by rfl) (hs2 : starEach [b] X.env = (false, eval b X.env) :: starEach [] X.env := by rfl) (hpl : (backTo pos (starEach [b] X.env)).any (·.1) = false := by rfl) :
    PIv X G W ios (.Tuple elts kk tpos) (.Call (.Name "zip" p) [a, b] [] pos) (itZip ga gb) := by
  refine ⟨fun pins s σ H R I q => (RZ.pi_zipA (tpos := tpos) hg hm (pa_cons ha (pa_cons hb pa_nil hs2) hs) hs hpl).run pins s σ H R I ?_⟩
  obtain ⟨pr, io, s, rfl, hi, r, q⟩ := q
  show tEv G W ios ga σ s.H (fun x H1 => tEv G W ios gb σ H1 fun y H2 => ∃ a b xs ys, [x, y] = [.ref a, .ref b] ∧ ((SqL X.K H2 a xs ∧ SqL X.K H2 b ys ∧ R (Itz X.K a b) H2) ∨ (SqT X.K H2 a xs ∧ SqT X.K H2 b ys ∧ R (RZ.ItzT X.K a b) H2)))
  refine tEv_of hi r ?_
  unfold itZip at q
  cases eg : ga s.ρ with
  | no => rw [eg] at q; exact q.elim
  | ex e ρ' => rw [eg] at q; exact q
  | ok t ρ' =>
    rw [eg] at q
    intro v s1 ot e1 r1 x1 p1 f1
    subst e1
    simp only [Ou.bindL] at q
    refine tEv_of hi r1 ?_
    cases eh : gb s1.ρ with
    | no => rw [eh] at q; exact q.elim
    | ex e ρ' => rw [eh] at q; exact fun cls d s' h1 h2 h3 h4 => q cls d s' h1 h2 (x1.trans h3) h4
    | ok u ρ' =>
      rw [eh] at q
      intro w s2 ot2 e2 r2 x2 p2 f2
      subst e2
      simp only [Ou.bindL] at q
      have p12 := p1.on r1 x2
      cases t with
      | v k d =>
        cases u with
        | v l d' =>
          cases d <;> cases d' <;> simp only [itemsZip] at q
          case tup.tup xs ys =>
            obtain ⟨a, vs, rfl, h1, h2⟩ := tup_all (show TmR G s2.H s2.fz pr (.v k (.tup xs)) v ot from p12.rel)
            obtain ⟨b, ws, rfl, h3, h4⟩ := tup_all (show TmR G s2.H s2.fz pr (.v l (.tup ys)) w ot2 from p2.rel)
            refine ⟨a, b, vs, ws, rfl, .inr ⟨.of h1, .of h3, q _ s2 rfl r2 (x1.trans x2) ⟨fun H => SqT X.K H a vs ∧ SqT X.K H b ws, YPair (fun i => vs[i]?) (fun i => ws[i]?), ?_, fun s3 σ3 r3 x3 => ⟨⟨SqT.of (x3.tk.1 _ _ h1), SqT.of (x3.tk.1 _ _ h3)⟩, fun i x H' hlt y => ?_⟩⟩⟩⟩
            · refine ⟨fun i H hi q => ?_, fun H q => ⟨vs, ws, q.1, q.2, ?_⟩, fun i H v H' _ q y => ?_⟩
              · rw [List.length_map, zipD, List.length_zipWith, h2.len, h4.len] at hi
                have k1 : i < vs.length := by omega
                have k2 : i < ws.length := by omega
                exact ⟨vs, ws, vs[i], ws[i], q.1, q.2, List.getElem?_eq_getElem k1, List.getElem?_eq_getElem k2⟩
              · rw [List.length_map, zipD, List.length_zipWith, h2.len, h4.len]
                omega
              · obtain ⟨T, x, z, h1, h2, h3, h4, h5⟩ := y
                exact ⟨T, x, z, h1, h2, h3, h4 vs q.1, h5 ws q.2⟩
            · obtain ⟨T, u, w, rfl, hT, rfl, hu, hw⟩ := y
              rw [List.length_map] at hlt
              have hlt' : i < min xs.length ys.length := by rw [zipD, List.length_zipWith] at hlt; exact hlt
              have k1 : i < xs.length := by omega
              have k2 : i < ys.length := by omega
              obtain ⟨u', hu', hd⟩ := (Tp.reps (v := .non) (ot := []) r2 h2 x3).get (List.getElem?_eq_getElem k1)
              obtain ⟨w', hw', hd2⟩ := (Tp.reps (v := .non) (ot := []) r2 h4 x3).get (List.getElem?_eq_getElem k2)
              dsimp only at hu; rw [hu] at hu'; cases hu'
              dsimp only at hw; rw [hw] at hw'; cases hw'
              refine ⟨s3.new T _, _, rfl, rfl, r3.new hT _, Ext.new hT _, ?_, new_pair r3 hT (kd2_l hd) (kd2_r hd2)⟩
              rw [List.getElem?_map, zipD, List.getElem?_zipWith, List.getElem?_eq_getElem k1, List.getElem?_eq_getElem k2]
              rfl
          case lst.lst xs ys =>
            obtain ⟨a, vs, rfl, h1, h2, n1⟩ := lst_no p12 r2
            obtain ⟨b, ws, rfl, h3, h4, n2⟩ := lst_no p2 r2
            refine ⟨a, b, vs, ws, rfl, .inl ⟨.of h1, .of h3, q _ s2 rfl r2 (x1.trans x2) ⟨fun H => SqL X.K H a vs ∧ SqL X.K H b ws, YPair (fun i => vs[i]?) (fun i => ws[i]?), ?_, fun s3 σ3 r3 x3 => ⟨⟨SqL.of (x3.keep _ _ h1 n1), SqL.of (x3.keep _ _ h3 n2)⟩, fun i x H' hlt y => ?_⟩⟩⟩⟩
            · rw [List.length_map, zipD, List.length_zipWith, h2.len, h4.len]
              exact walk_zip rfl
            · obtain ⟨T, u, w, rfl, hT, rfl, hu, hw⟩ := y
              rw [List.length_map] at hlt
              have hlt' : i < min xs.length ys.length := by rw [zipD, List.length_zipWith] at hlt; exact hlt
              have k1 : i < xs.length := by omega
              have k2 : i < ys.length := by omega
              obtain ⟨u', hu', hd⟩ := (Tp.reps (v := .non) (ot := []) r2 h2 x3).get (List.getElem?_eq_getElem k1)
              obtain ⟨w', hw', hd2⟩ := (Tp.reps (v := .non) (ot := []) r2 h4 x3).get (List.getElem?_eq_getElem k2)
              dsimp only at hu; rw [hu] at hu'; cases hu'
              dsimp only at hw; rw [hw] at hw'; cases hw'
              refine ⟨s3.new T _, _, rfl, rfl, r3.new hT _, Ext.new hT _, ?_, new_pair r3 hT (kd2_l hd) (kd2_r hd2)⟩
              rw [List.getElem?_map, zipD, List.getElem?_zipWith, List.getElem?_eq_getElem k1, List.getElem?_eq_getElem k2]
              rfl
          all_goals exact q.elim
        | loc i => cases d <;> exact q.elim
        | tp ts => cases d <;> exact q.elim
        | ls ts => cases d <;> exact q.elim
        | ob c ts => cases d <;> exact q.elim
      | loc i => exact q.elim
      | tp ts => exact q.elim
      | ls ts => exact q.elim
      | ob c ts => exact q.elim
end
end PV

namespace PV
open PySem PySem.Spec L2
/-! ### xs += t, t a tuple -/
section
open PyProof.Rows
variable {M : Model} {prog : Program} {w : World} {A : Around} {E : Value → Shared → Prop} {s : Shared}
end
section
open PyProof.Rows
variable {X : Cx}
def rExtT (K : PySem.W.Frag) : R2 := fun x y H Q => ∃ l b xs zs, x = .ref l ∧ y = .ref b ∧ H l = some (.lst xs) ∧ SqT K H b zs ∧ xs.length + zs.length ≤ sizeLine ∧ Q (.ref l) (upd H l (.lst (xs ++ zs)))
end
section
variable {G : Gx} {W : WX} {pr : Addr → Prop} {io : List (Nat × V)} {σ : L2.St} {s s1 : Sx} {ios : List Nat} {Q : VK} {X : Cx} {a b c : Expr} {pos p : Pos} {x : Str} {ga gb gc : Ev}
/-- xs += e, e a list or a tuple -/
def opExt (xs : List D) (t : Tm) : Option (List D) := match t with
  | .v k (.tup ys) => (elk k ys).map (xs ++ ·)
  | .v k (.lst ys) => (elk k ys).map (xs ++ ·)
  | _ => none
def sExt (i : Nat) (g : Ev) : Sm := fun ρ => match ρ[i]? with
  | some (some (.v .O (.lst _))) => (g ρ).toF fun t ρ1 => match t with
    | .loc _ => .no
    | t => match ρ1[i]? with
      | some (some (.v .O (.lst xs))) => match opExt xs t with
        | some zs => if zs.length ≤ sizeLine then .nx (ρ1.set i (some (.v .O (.lst zs)))) else .no
        | none => .no
      | _ => .no
  | _ => .no
def ipExt (K : PySem.W.Frag) : TIp := fun x y H Q => rExt2 x y H Q ∨ rExtT K x y H Q
end
end PV

namespace PV
open PySem PySem.Spec L2
section
variable {X : Cx}
def rGetL : V → V → Hp → VK → Prop := fun o i H Q => ∃ (p : Addr) (xs : List V) (k : Int) (z : V), o = .ref p ∧ i = .int k ∧ H p = some (.lst xs) ∧ atI xs k = some z ∧ Q z H
theorem get_list : PGet X rGetL := by
  intro pins s σ H o i ov iv Q I ro ri h
  obtain ⟨p, xs, k, z, rfl, rfl, hp, he, q⟩ := h
  cases ro
  obtain ⟨t, rfl⟩ := ri
  obtain ⟨its, r, pl, hz⟩ := I.list (SqL.of hp)
  obtain ⟨j, h1, h2, h3, h4, h5⟩ := atI_get he
  obtain ⟨w, ew, rw'⟩ := r.get h2
  have hl := r.length
  have hn := line63
  have fin : EP X pins σ Q w s := ⟨z, H, I, rw', q⟩
  by_cases h0 : 0 ≤ k
  · have hj : k.toNat = j := by
      rw [seqIndex_of h0 h5] at h1
      exact Option.some.inj h1
    exact wpAny_getItem_list pl.isList h0 (by omega) (by rw [hj]; simpa using ew) fin
  · have hj : (k + (its.toArray.size : Int)).toNat = j := by
      rw [seqIndex_neg (by omega) h4] at h1
      rw [List.size_toArray, ← hl]
      exact Option.some.inj h1
    exact wpAny_getItem_list_neg pl.isList (by omega) (by rw [List.size_toArray] <;> omega) (by omega) (by rw [hj]; simpa using ew) fin
end
section
variable {G : Gx} {W : WX} {pr : Addr → Prop} {io : List (Nat × V)} {σ : L2.St} {s s1 : Sx} {ios : List Nat} {Q : VK} {X : Cx} {a b c ie : Expr} {pos p pos2 : Pos} {x : Str} {ga gb gc gi : Ev}
/-- xs[e] += e2, ints -/
def sAugSub (i : Nat) (gi : Ev) (f : Int → Int → Int) (g : Ev) : Sm := fun ρ => if isLs ρ i = true then (gi ρ).toF fun u ρ1 => match asI u with
  | some k => match ρ1[i]? with
    | some (some (.v .O (.lst xs))) => match L2.atI xs k with
      | some (.int m) => (g ρ1).toF fun w ρ2 => match asI w with
        | some n => match ρ2[i]? with
          | some (some (.v .O (.lst ys))) => match ixN ys.length k with
            | some j => .nx (ρ2.set i (some (.v .O (.lst (ys.set j (.int (f m n)))))))
            | none => .no
          | _ => .no
        | none => .no
      | _ => .no
    | _ => .no
  | none => .no
  else .no
theorem s_augSub {i : Nat} {op : Operator} {f : Int → Int → Int} (ho : PIp X op (ipI f)) (hx : X.N[i]? = some x) (hv : Vis X.env.scope x) (hdn : (x == ("__debug__" : Str)) = false) (hcn : (x == ("__classdict__" : Str)) = false) (hi : PEv X G W ios ie gi) (ha : PEv X G W ios a ga)
    (hau : ∀ ov iv new, augStore ie ov iv new = (do holding [new, ov, iv] (setItem ov iv new); release [new, ov, iv] []; pure .next) := by intros; rfl) : PSv X G W ios (.AugAssign (.Subscript (.Name x p) ie pos2) op a pos) (sAugSub i gi f ga) :=
  ps_imp (ps_augS (pe_var hx hv hdn hcn) hi get_list ha ho set_list hau) fun De σ H q => by
    obtain ⟨pr, io, s, rfl, hi, r, q⟩ := of_tSv q
    unfold sAugSub at q
    by_cases hl : isLs s.ρ i = true
    · rw [if_pos hl] at q
      obtain ⟨l, xv0, hv, hH⟩ := lm_cell r hl
      refine ⟨.ref l, hv, tEv_of hi r (FlP.toF q fun u w s1 ot r1 x1 p1 f1 q1 => ?_)⟩
      cases ek : asI u with
      | none => rw [ek] at q1; exact q1.elim
      | some k =>
        rw [ek] at q1
        have ew := asI_of p1 ek
        subst ew
        dsimp only at q1
        split at q1
        · rename_i xs e1
          split at q1
          · rename_i m em
            obtain ⟨o0, ht, _⟩ := r1.at e1 hv
            simp only [TmR, RepO] at ht
            obtain ⟨l', xv, e7, rfl, hl1, hxs⟩ := ht
            cases e7
            obtain ⟨z, hz, hzr⟩ := hxs.atI em
            simp only [Rep] at hzr
            subst hzr
            refine ⟨l, xv, k, .int m, rfl, rfl, hl1, hz, tEv_of hi r1 (OuP.later (FlP.toF q1 fun w v2 s2 ot2 r2 x2 p2 f2 q2 => ?_) x1)⟩
            cases en : asI w with
            | none => rw [en] at q2; exact q2.elim
            | some n =>
              rw [en] at q2
              have ew := asI_of p2 en
              subst ew
              dsimp only at q2
              refine ⟨m, n, rfl, rfl, ?_⟩
              split at q2
              · rename_i ys e3
                split at q2
                · rename_i j ej
                  obtain ⟨v', o0, hv', ht, nd0, sub0, mu⟩ := r2.mut (i := i) e3
                  rw [hv] at hv'
                  cases hv'
                  simp only [TmR, RepO] at ht
                  obtain ⟨a', yv, e7, rfl, hl2, hys⟩ := ht
                  cases e7
                  have own := r2.own l (sub0 l (by simp))
                  have hsep := r2.sep l (sub0 l (by simp))
                  refine ⟨l, yv, k, j, rfl, rfl, hl2, by rw [← hys.len]; exact ej, ?_⟩
                  have k2 : Reps G (upd s2.H l (.lst (yv.set j (.int (f m n))))) s2.fz (ys.set j (.int (f m n))) (yv.set j (.int (f m n))) := (Reps.setI (by simp only [Rep]) j hys).updO own hsep.1 _
                  obtain ⟨os', r4, hos'⟩ := mu [] l (.lst (yv.set j (.int (f m n)))) (.v .O (.lst (ys.set j (.int (f m n))))) [l] (by simp) (fun b hb => by cases hb) (by simp) (fun b hb => .inl hb) (by simp only [TmR, RepO]; exact ⟨l, _, rfl, rfl, upd_same, k2⟩)
                  exact q2 σ _ rfl r4 (x2.mut own (sub0 l (by simp)) hos' Frs.nil _ _)
                · exact q2.elim
              · exact q2.elim
          · exact q1.elim
        · exact q1.elim
    · rw [if_neg hl] at q; exact q.elim
/-! x in xs: ints -/
def inD (neg : Bool) (x y : D) : Option D := match x, y with
  | .int i, .lst ys => (intsD ys).map fun ns => .bl (if neg = true then !decide (i ∈ ns) else decide (i ∈ ns))
  | .int i, .tup ys => (intsD ys).map fun ns => .bl (if neg = true then !decide (i ∈ ns) else decide (i ∈ ns))
  | _, _ => none
theorem inV_ints (i : Int) : ∀ ns : List Int, inV (.int i) (ns.map V.int) = decide (i ∈ ns)
  | [] => rfl
  | n :: ns => by
    have ih := inV_ints i ns
    unfold inV at ih ⊢
    rw [List.map_cons, List.any_cons, ih]
    show (n == i || decide (i ∈ ns)) = decide (i ∈ n :: ns)
    by_cases h : n = i
    · subst h; simp
    · have : ¬ i = n := fun z => h z.symm
      simp [h, this]
theorem flatV_ints (ns : List Int) : (ns.map V.int).all flatV = true := by
  rw [List.all_eq_true]
  intro v hv
  obtain ⟨n, _, rfl⟩ := List.mem_map.mp hv
  rfl
theorem rdIn {K : PySem.W.Frag} (neg : Bool) : Rd2 G (inD neg) (rIn K neg) := by
  intro H x y dx dy d Q hx hy e q
  cases dx <;> cases dy <;> simp only [inD, reduceCtorEq, Option.map_eq_some_iff] at e
  all_goals
    obtain ⟨ns, e, rfl⟩ := e
    simp only [Rep] at hx hy
    subst hx
    obtain ⟨a, vs, rfl, hy⟩ := hy
    rw [intsD_eq e] at hy
  · obtain ⟨h1, h2⟩ := hy
    rw [reps_ints h2] at h1
    exact ⟨a, _, rfl, .inr (.of h1), rfl, flatV_ints ns, by rw [inV_ints]; exact q _ fun P => by simp only [Rep]⟩
  · obtain ⟨_, h1, h2⟩ := hy
    rw [reps_ints h2] at h1
    exact ⟨a, _, rfl, .inl (.of h1), rfl, flatV_ints ns, by rw [inV_ints]; exact q _ fun P => by simp only [Rep]⟩
def eIn : Ev → Ev → Ev := eOp2 (rd2 (inD false))
end
end PV

namespace PV
open PySem PySem.Spec L2
/-! ### sum of a list or a tuple of ints -/
section
variable {prog : Program} {w : World} {A : Around} {E : Value → Shared → Prop} {s : Shared} {l : Addr} {its : List Value} {ns : List Int} {Q : Value → Shared → Prop}
theorem sumT_raw (hh : A.handled = none) (hl : s.heap.IsTuple l its.toArray) (hi : PyProof.Rows.IntsAre its ns)
    (h : ∀ h' tk t', (∀ b o, s.heap.get? b = some o → h'.get? b = some o) → Q (.int ns.sum t') { s with heap := h', toks := tk }) : wpAny (model prog w) A (call (.builtin "sum") [.ref l]) Q E s := by
  obtain ⟨xs, e⟩ := hi.allInts.items
  have hn : numsOf (intItems xs).toList = ns := by rw [← e]; exact hi.numsOf
  rw [nums_intItems] at hn
  rw [e] at hl
  have hlt : l < s.heap.objs.size := by obtain ⟨o, q, _⟩ := id hl; exact Heap.lt_size q
  refine call_sum_walkG (wpAny_pyIter_tuple hl ?_)
  refine ⟨_, _, _, _, _, _, numAt xs, rfl, Walks.tuple (A := A.in1) hh _ l (Nat.ne_of_lt hlt) (intItems xs), ⟨⟨_, Heap.get?_push_size _ rfl, rfl, rfl⟩, hl.push _⟩, fun b hb => ?_, (fun _ _ => intItems_at), fun h' tk t' hk => ?_⟩
  · show b < (s.heap.push _).objs.size
    rw [Heap.size_push]
    simp only [List.mem_cons, List.not_mem_nil, or_false] at hb
    rcases hb with z | z
    · rw [z]; exact Nat.lt_succ_self _
    · rw [z]; exact Nat.lt_succ_of_lt hlt
  · have := h h' tk t' fun b o q => hk b o (by rw [List.mem_singleton]; exact Nat.ne_of_lt (Heap.lt_size q)) (Heap.get?_push_of_some _ q)
    rw [preSum_eq, List.take_of_length_le (by simp [intItems]), hn]
    exact this
end
section
variable {G : Gx} {W : WX} {ios : List Nat} {X : Cx} {a : Expr} {pos p : Pos} {ga : Ev}
def rSumA (K : PySem.W.Frag) : List V → Hp → VK → Prop := fun vs H Q => ∃ (a : Addr) (ns : List Int), vs = [V.ref a] ∧ (SqL K H a (ns.map V.int) ∨ SqT K H a (ns.map V.int)) ∧ Q (.int ns.sum) H
theorem cr_sumA (hc : X.calm = true) : CallR X (.builtin "sum") (rSumA X.K) := by
  intro pins s σ H vs us Q I r h
  obtain ⟨a, ns, rfl, hs | hs, q⟩ := h
  · exact cr_sum hc pins s σ H _ us Q I r ⟨a, ns, rfl, hs, q⟩
  · obtain ⟨its, rv, hl, _⟩ := I.tuple hs
    rw [Vals.ref1 r]
    exact sumT_raw (I.ok.hd hc) hl rv.ints fun h' tk t' hk => ⟨.int _, H, I.kept hk, ⟨_, rfl⟩, q⟩
def sumD : D → Option D
  | .lst xs => (intsD xs).map fun ns => .int ns.sum
  | .tup xs => (intsD xs).map fun ns => .int ns.sum
  | _ => none
def eSumA : Ev → Ev := eOp1 (rd1 sumD)
theorem v_sumA (hc : X.calm = true) (hm : X.mg "sum" = none) (ha : PEv X G W ios a ga) (hg : Gl X "sum" := by rfl) (hs : starEach [a] X.env = (false, eval a X.env) :: starEach [] X.env := by rfl) : PEv X G W ios (.Call (.Name "sum" p) [a] [] pos) (eSumA ga) :=
  v_b1 (cr_sumA hc) (Rd1.op (by
    intro H x dx d Q hx e q
    cases dx <;> simp only [sumD, reduceCtorEq, Option.map_eq_some_iff] at e
    all_goals
      obtain ⟨ns, e, rfl⟩ := e
      simp only [Rep] at hx
      obtain ⟨a, vs, rfl, hx⟩ := hx
      rw [intsD_eq e] at hx
    · obtain ⟨h1, h2⟩ := hx
      rw [reps_ints h2] at h1
      exact ⟨a, ns, rfl, .inr (.of h1), q _ fun P => by simp only [Rep]⟩
    · obtain ⟨_, h1, h2⟩ := hx
      rw [reps_ints h2] at h1
      exact ⟨a, ns, rfl, .inl (.of h1), q _ fun P => by simp only [Rep]⟩)) hm ha hg (hs := hs)
end
end PV

namespace PV
open PySem PySem.Spec L2
/-! xs.remove(k), x not in xs, sorted(xs, reverse=True), methods with keywords -/
section
variable {G : Gx} {W : WX} {pr : Addr → Prop} {io : List (Nat × V)} {σ : L2.St} {s s1 : Sx} {ios : List Nat} {Q : VK} {X : Cx} {a b c e o : Expr} {es : List Expr} {pos p pos2 apos : Pos} {x m : Str} {ga gb gc gi g0 : Ev} {gs gk : Ss → OuL}
def opRem : List D → List D → Option (D × List D) := fun xs ds => match ds with
  | [.int k] => (intsD xs).bind fun ns => if k ∈ ns then some (.non, (ns.erase k).map .int) else none
  | _ => none
def eNotIn : Ev → Ev → Ev := eOp2 (rd2 (inD true))
/-- the falling list -/
def opSortR (t : Tm) : Option Tm := match toD t with
  | .lst xs => (intsD xs).map fun ns => .v .O (.lst ((isort ns).reverse.map .int))
  | _ => none
def eSortR : Ev → Ev := eOp1 opSortR
/-- o.m(e, .., k = e, ..): dfl what the defaults fill up -/
def eMethK (c : Nat) (fn : Fn) (ms : List Md) (g0 : Ev) (gs gk : Ss → OuL) (dfl : List D) : Ev := fun ρ => (g0 ρ).bind fun t0 ρ1 => if isOb c (derT ρ1 t0) = true then (gs ρ1).bind fun ts ρ2 => (gk ρ2).bind fun us ρ3 => callF fn ms (t0 :: (ts ++ us ++ dfl.map (Tm.v .F))) ρ3 else .no
section
variable {k n : Nat} {f C : Addr} {fd : FuncData} {ps : List Str} {sp : Sp} {E : St → XK} {ta : TE} {t tk : TA} {ks : List Str} {kws : List Keyword} {g : List Value → List Value → List Value} {gV : List V → List V → List V}
def tMethK (C : Addr) (m : Str) (n l : Nat) (sp : Sp) (gV : List V → List V → List V) (E : St → XK) (ta : TE) (t tk : TA) : TE := fun σ H Q => ta σ H fun x H1 => ∃ a dx fs, x = .ref a ∧ H1 a = some (.ins C dx fs) ∧ fs.lookup m = none ∧ t σ H1 fun vs H2 => tk σ H2 fun zs H3 => vs.length = n ∧ zs.length = l ∧ sp (gV (x :: vs) zs) H3 Q (E σ)
end
section
variable {c k n j : Nat} {fa : Addr} {fd : FuncData} {ps ks : List Str} {kws : List Keyword} {fn : Fn} {ms : List Md} {g : List Value → List Value → List Value} {gV : List V → List V → List V} {dfl : List D} {dv : List V}
end
end
end PV

namespace PV
open PySem PySem.Spec L2 PyProof.Rows
/-! list(zip(a, b)) -/
section
variable {prog : Program} {w : World} {A : Around} {E : Value → Shared → Prop} {s : Shared} {z TI TO T i1 i2 : Addr} {f : Bool} {oT : Obj} {fp1 fp2 : List Addr} {n1 n2 i : Nat} {P1 P2 : Nat → Value → Prop} {St1 St2 : Nat → Heap → Prop} {a1 a2 : Value}
/-- a zip at turn i, its tuple out or not -/
def ZSt (z TI TO i1 i2 S : Addr) (St1 St2 : Nat → Heap → Prop) (i : Nat) (h : Heap) : Prop :=
  ((IsZip h z TI TO .none ∧ ∃ a1 a2, IsTupOf2 h TO a1 a2) ∨ ∃ T f oT, PySem.IsZipHeld h z TI TO T f ∧ h.get? T = some oT ∧ T ≠ z ∧ T ≠ i1 ∧ T ≠ i2 ∧ T ≠ S) ∧ IsTupOf2 h TI (.ref i1) (.ref i2) ∧ St1 i h ∧ St2 i h
theorem ZSt.keep {S : Addr} {h h' : Heap} (D1 : Draws prog w A i1 fp1 n1 P1 St1) (D2 : Draws prog w A i2 fp2 n2 P2 St2) (hS : S ∉ z :: TI :: TO :: (fp1 ++ fp2)) (st : ZSt z TI TO i1 i2 S St1 St2 i h) (hk : ∀ b o, b ≠ S → h.get? b = some o → h'.get? b = some o) : ZSt z TI TO i1 i2 S St1 St2 i h' := by
  simp only [List.mem_cons, List.mem_append, not_or] at hS
  obtain ⟨n1', n2', n3', n4', n5'⟩ := hS
  obtain ⟨h0, h1, h2, h3⟩ := st
  refine ⟨?_, hk _ _ (Ne.symm n2') h1, D1.frame _ _ _ h2 fun b hb o e => hk b o (fun q => n4' (q ▸ hb)) e, D2.frame _ _ _ h3 fun b hb o e => hk b o (fun q => n5' (q ▸ hb)) e⟩
  rcases h0 with ⟨a, x, y, b⟩ | ⟨T, f, oT, a, b, c⟩
  · exact .inl ⟨hk _ _ (Ne.symm n1') a, x, y, hk _ _ (Ne.symm n3') b⟩
  · exact .inr ⟨T, f, oT, hk _ _ (Ne.symm n1') a, hk _ _ c.2.2.2 b, c⟩
/-- the pairs made so far -/
structure ZG (P1 P2 : Nat → Value → Prop) (lo : Addr) (h : Heap) (as : List Addr) : Prop where
  rise : as.Pairwise (· < ·)
  above : ∀ a ∈ as, lo < a
  pairs : ∀ (j : Nat) (a : Addr), as[j]? = some a → ∃ x y, P1 j x ∧ P2 j y ∧ IsTupOf2 h a x y
theorem ZG.there {lo : Addr} {h : Heap} {as : List Addr} (g : ZG P1 P2 lo h as) {a : Addr} (ha : a ∈ as) : a < h.objs.size := by
  obtain ⟨j, hj⟩ := List.mem_iff_getElem?.mp ha
  obtain ⟨_, _, _, _, e⟩ := g.pairs j a hj
  exact Heap.lt_size e
end
section
variable {prog : Program} {w : World} {A : Around} {E : Value → Shared → Prop} {s : Shared} {R : Result → Shared → Prop} {z TI TO T i1 i2 S : Addr} {fp1 fp2 : List Addr} {n1 n2 : Nat} {P1 P2 : Nat → Value → Prop} {St1 St2 : Nat → Heap → Prop}
end
/-- the pairs tracked at their addresses -/
def putP : Hp → List Addr → List (V × V) → Hp
  | H, a :: as, p :: ps => putP (upd H a (.tup [p.1, p.2])) as ps
  | H, _, _ => H
section
variable {X : Cx}
/-- a list or a tuple as the argument of zip -/
structure ZArg (X : Cx) (s : Shared) (v : Value) (us : List Value) : Prop where
  ex : ∃ (l : Addr) (o : Obj) (Hh : Heap → Prop) (St : Addr → Nat → Heap → Prop), v = .ref l ∧ l < s.heap.objs.size ∧ Begins v o Hh ∧ Hh s.heap ∧ (∀ (A : Around) (it : Addr), A.handled = none → l ≠ it → Draws X.prog X.w A it [it, l] us.length (fun i v => us[i]? = some v) (St it)) ∧ ∀ h it, Hh h → h.get? it = some o → St it 0 h
def rListZip (K : PySem.W.Frag) : List V → Hp → VK → Prop := fun vs H Q => ∃ (a b : Addr) (xs ys : List V), vs = [.ref a, .ref b] ∧ (SqL K H a xs ∨ SqT K H a xs) ∧ (SqL K H b ys ∨ SqT K H b ys) ∧
  ∀ (H' : Hp) (p : Addr) (ts : List Addr), (∀ b o, H b = some o → H' b = some o) → H p = none → (∀ t ∈ ts, H t = none) → p ∉ ts → H' p = some (.lst (ts.map V.ref)) → Paired (fun (t : Addr) (q : V × V) => H' t = some (.tup [q.1, q.2])) ts (xs.zip ys) → Q (.ref p) H'
end
end PV

namespace PV
open PySem PySem.Spec L2
/-! list(zip), join, str, isinstance, all, sorted pairs -/
section
variable {G : Gx} {W : WX} {pr : Addr → Prop} {io : List (Nat × V)} {σ : L2.St} {s s1 : Sx} {ios : List Nat} {Q : VK} {X : Cx} {a b c e o : Expr} {es : List Expr} {pos p pos2 p2 apos : Pos} {x m : Str} {ga gb gc gi g0 : Ev} {gs gk : Ss → OuL}
/-- the heap grows -/
def Grow (H H' : Hp) : Prop := ∀ b o, H b = some o → H' b = some o
theorem Grow.tk {H H' : Hp} (k : Grow H H') : Tk H H' := ⟨fun a vs h => k _ _ h, fun a o u h => k _ _ h⟩
/-! ### list(zip(a, b)) -/
def sqF : Tm → Option (List D)
  | .v k (.lst xs) => elk k xs
  | .v k (.tup xs) => elk k xs
  | _ => none
def pairT (p : D × D) : D := .tup [p.1, p.2]
def opLZip (t u : Tm) : Option Tm := match sqF t, sqF u with
  | some xs, some ys => some (.v .O (.lst ((xs.zip ys).map pairT)))
  | _, _ => none
def eLZip : Ev → Ev → Ev := eOp2 opLZip
/-! ### sep.join(xs), str(i) -/
def strsD : List D → Option (List Str)
  | [] => some []
  | .str i :: ds => (strsD ds).map (i :: ·)
  | _ => none
theorem strsD_map : ∀ ns : List Str, strsD (ns.map .str) = some ns
  | [] => rfl
  | n :: ns => by simp [strsD, strsD_map ns]
theorem strsD_eq : ∀ {ds : List D} {ns : List Str}, strsD ds = some ns → ds = ns.map .str
  | [], ns, e => by simp only [strsD, Option.some.injEq] at e; subst e; rfl
  | d :: ds, ns, e => by
    cases d <;> simp only [strsD, reduceCtorEq, Option.map_eq_some_iff] at e
    obtain ⟨ms, e, rfl⟩ := e
    rw [strsD_eq e]
    rfl
theorem reps_strs {H : Hp} {P : Addr → Prop} : ∀ {ns : List Str} {vs : List V}, Reps G H P (ns.map .str) vs → vs = ns.map V.str
  | [], vs, h => by simpa [Reps] using h
  | n :: ns, vs, h => by
    simp only [List.map_cons, Reps, Rep] at h
    obtain ⟨v, r, rfl, rfl, h⟩ := h
    rw [reps_strs h]
    rfl
def asS : Tm → Option Str
  | .v _ (.str z) => some z
  | _ => none
theorem asS_of {H : Hp} {fz pr : Addr → Prop} {t : Tm} {v : V} {ot : List Addr} {z : Str} (h : TmR G H fz pr t v ot) (e : asS t = some z) : v = .str z := by
  unfold asS at e
  split at e
  · cases e
    have := TmR.toD _ _ _ h
    simpa only [toD, Rep] using this
  · cases e
def joinO (a : Str) (t : Tm) : Option Tm := match toD t with
  | .lst xs => (strsD xs).bind fun ys => if (ys.map (·.length)).sum + ys.length * a.length ≤ 16777216 then some (.v .F (.str (Txt.join a ys))) else none
  | .tup xs => (strsD xs).bind fun ys => if (ys.map (·.length)).sum + ys.length * a.length ≤ 16777216 then some (.v .F (.str (Txt.join a ys))) else none
  | _ => none
def eJoin (ga gb : Ev) : Ev := fun ρ => (ga ρ).bind fun t ρ1 => match (derT ρ1 t).bind asS with
  | some z => (gb ρ1).bind fun u ρ2 => match (derT ρ2 u).bind (joinO z) with
    | some r => .ok r ρ2
    | none => .no
  | none => .no
theorem v_join (ha : PEv X G W ios o ga) (hb : PEv X G W ios e gb) (hs : starEach [e] X.env = [(false, eval e X.env)] := by rfl) (hbase : attributeBase o "join" X.env (eval o X.env) = eval o X.env := by rfl) (hline : (apos.endLine == pos.line) = true := by rfl) :
    PEv X G W ios (.Call (.Attribute o "join" apos) [e] [] pos) (eJoin ga gb) :=
  pe_imp (pe_join ha hb hs hbase hline) fun σ H Q q => by
    obtain ⟨pr, io, s, rfl, hi, r, q⟩ := of_tEv q
    refine tEv_of hi r (OuP.bind q fun t v s1 ot r1 x1 p1 f1 q1 => ?_)
    cases ed : derT s1.ρ t with
    | none => rw [ed] at q1; exact q1.elim
    | some u =>
      obtain ⟨_, hu⟩ := p1.der r1 ed
      cases es : asS u with
      | none => rw [ed, Option.bind_some, es] at q1; exact q1.elim
      | some z =>
        rw [ed, Option.bind_some, es] at q1
        have ev := asS_of hu es
        subst ev
        refine ⟨⟨z, rfl⟩, tEv_of hi r1 (OuP.bind q1 fun t2 v2 s2 ot2 r2 x2 p2 f2 q2 => ?_)⟩
        cases e2 : derT s2.ρ t2 with
        | none => rw [e2] at q2; exact q2.elim
        | some u2 =>
          obtain ⟨_, hu2⟩ := p2.der r2 e2
          rw [e2, Option.bind_some] at q2
          have hd := TmR.toD _ _ _ hu2
          unfold joinO at q2
          cases ek : toD u2 with
          | lst xs =>
            rw [ek] at q2 hd
            simp only at q2
            simp only [Rep] at hd
            obtain ⟨a, vs, rfl, _, h1, h2⟩ := hd
            cases es2 : strsD xs with
            | none => rw [es2, Option.bind_none] at q2; exact q2.elim
            | some ys =>
              rw [es2, Option.bind_some] at q2
              rw [strsD_eq es2] at h2
              rw [reps_strs h2] at h1
              split at q2
              · rename_i w ew
                split at ew
                · rename_i hl
                  cases ew
                  exact ⟨z, a, ys, rfl, rfl, .inl (.of h1), hl, q2.done r2 (by simp only [Rep])⟩
                · cases ew
              · exact q2.elim
          | tup xs =>
            rw [ek] at q2 hd
            simp only at q2
            simp only [Rep] at hd
            obtain ⟨a, vs, rfl, h1, h2⟩ := hd
            cases es2 : strsD xs with
            | none => rw [es2, Option.bind_none] at q2; exact q2.elim
            | some ys =>
              rw [es2, Option.bind_some] at q2
              rw [strsD_eq es2] at h2
              rw [reps_strs h2] at h1
              split at q2
              · rename_i w ew
                split at ew
                · rename_i hl
                  cases ew
                  exact ⟨z, a, ys, rfl, rfl, .inr (.of h1), hl, q2.done r2 (by simp only [Rep])⟩
                · cases ew
              · exact q2.elim
          | _ => rw [ek] at q2; exact q2.elim
def strID : D → Option D
  | .int i => if i.natAbs.log2 < 1920 then some (.str (toString i)) else none
  | _ => none
def eStrI : Ev → Ev := eOp1 (rd1 strID)
theorem v_strI (hm : X.mg "str" = none) (ha : PEv X G W ios a ga) (hg : Gl X "str" := by rfl) (hs : starEach [a] X.env = (false, eval a X.env) :: starEach [] X.env := by rfl) : PEv X G W ios (.Call (.Name "str" p) [a] [] pos) (eStrI ga) :=
  v_ty1 call_str_int (Rd1.op (by
    intro H x dx d Q hx e q
    cases dx <;> simp only [strID, reduceCtorEq] at e
    split at e
    · cases e
      simp only [Rep] at hx
      subst hx
      exact ⟨_, rfl, by assumption, q _ fun P => by simp only [Rep]⟩
    · cases e)) hm ha hg (hs := hs)

/-! ### str(o), o an own instance with __str__ -/
def rStrO (C : Addr) (sp : Sp) : List V → Hp → VK → Prop := fun xs H Q => ∃ a dx fs, xs = [.ref a] ∧ H a = some (.ins C dx fs) ∧ sp [.ref a] H (fun v H' => (∃ z, v = .str z) ∧ Q v H') fun _ _ _ => False
theorem cr_strO {C f : Addr} {k : Nat} {fd : FuncData} {ps : List Str} {sp : Sp} (hm : Meth X.K C "__str__" f) (F : FnG X.prog X.w X.K X.mg X.base k f fd ps sp) (hr : RoomG (k + 2) X.A) (hb : Binds X.K fd ps []) : CallR X (.type "str") (rStrO C sp) := by
  intro pins s σ H xs us Q I r h
  obtain ⟨a, dx, fs, rfl, ea, q⟩ := h
  rw [Vals.ref1 r]
  obtain ⟨mA, O, _⟩ := ins_get I.hok ea
  obtain ⟨od, J, _⟩ := O.look
  have b := hb s [.ref a] I.kIn (by rw [List.append_nil]; exact F.len _ _ _ _ q)
  have hu := hr.r.un
  refine PySem.W.kso_call (by show X.A.units + 1 + 1 < cLine; omega) I.kIn J hm.at_ hm.fn (wpAny_call (codeAny_mono (F.go X.A.in1.in1 X.stack s H ⟨[.ref a], []⟩ [.ref a] [.ref a] _ _ hr.in1.in1 I.env0.in1.in1 b (.cons rfl .nil) q) fun w s' hw => ?_))
  match w, hw with
  | .error e, hw => obtain ⟨_, _, _, _, _, _, _, _, _, _, _, _, z⟩ := hw; exact z.elim
  | .ok (.ret u), hw =>
    obtain ⟨v, H', I3, rv, ⟨z, ez⟩, q3⟩ := I.after hw
    subst ez
    obtain ⟨t, rfl⟩ := id rv
    exact ⟨_, H', I3, rv, q3⟩
  | .ok .next, hw => exact hw.elim
  | .ok .brk, hw => exact hw.elim
  | .ok .cont, hw => exact hw.elim
def isStrT : Tm → Bool
  | .v _ (.str _) => true
  | _ => false
def eStrO (c : Nat) (fn : Fn) (ms : List Md) (g0 : Ev) : Ev := fun ρ => (g0 ρ).bind fun t0 ρ1 => if isOb c (derT ρ1 t0) = true then match callF fn ms [t0] ρ1 with
  | .ok t ρ2 => if isStrT t = true then .ok t ρ2 else .no
  | _ => .no
  else .no
theorem v_strO {c k n : Nat} {fa : Addr} {fd : FuncData} {ps : List Str} {fn : Fn} {ms : List Md} (h0 : PEv X G W ios o g0) (hm : Meth X.K (G.ca c) "__str__" fa) (F : FnG X.prog X.w X.K X.mg X.base k fa fd ps (spV G n (ioPos 0 ms) fn)) (hr : RoomG (k + 2) X.A) (hb : Binds X.K fd ps []) (hmn : X.mg "str" = none)
    (hn : ms.length = n := by rfl) (hg : Gl X "str" := by rfl) (hs : starEach [o] X.env = (false, eval o X.env) :: starEach [] X.env := by rfl) : PEv X G W ios (.Call (.Name "str" p) [o] [] pos) (eStrO c fn ms g0) :=
  pe_imp (pe_callTy (cr_strO hm F hr hb) hg hmn (by decide +kernel) (pa_cons h0 pa_nil hs) (by decide) (by decide) hs (by rfl)) fun σ H Q q => by
    show tEv G W ios g0 σ H fun x H1 => rStrO (G.ca c) (spV G n (ioPos 0 ms) fn) [x] H1 Q
    obtain ⟨pr, io, s, rfl, hi, r, q⟩ := of_tEv q
    refine tEv_of hi r (OuP.bindG (Ext.refl s) q fun t v s1 o1 r1 x1 p1 f1 q1 => ?_)
    by_cases hob : isOb c (derT s1.ρ t) = true
    · rw [if_pos hob] at q1
      have obj : ∃ a dx fs, v = .ref a ∧ s1.H a = some (.ins (G.ca c) dx fs) := by
        cases e : derT s1.ρ t with
        | none => rw [e] at hob; cases hob
        | some u =>
          rw [e] at hob
          obtain ⟨o, hu⟩ := p1.der r1 e
          unfold isOb at hob
          split at hob
          · rename_i c' ts heq
            cases heq
            have : c' = c := by simpa using hob
            subst this
            simp only [TmR] at hu
            obtain ⟨a, dx, vs, o, rfl, _, h1, _⟩ := hu
            exact ⟨a, dx, _, rfl, h1⟩
          · rename_i k c' xs heq
            cases heq
            have : c' = c := by simpa using hob
            subst this
            have hu := TmR.toD _ _ _ hu
            simp only [toD, Rep] at hu
            obtain ⟨a, dx, vs, rfl, _, h1, _⟩ := hu
            exact ⟨a, dx, _, rfl, h1⟩
          · cases hob
      obtain ⟨a, dx, fs, ev, h1⟩ := obj
      refine ⟨a, dx, fs, by rw [ev], h1, ?_⟩
      subst ev
      have q2 : OuP G W0 pr io σ s (callF fn ms [t] s1.ρ) (fun v H' => (∃ z, v = .str z) ∧ Q v H') := by
        cases ec : callF fn ms [t] s1.ρ with
        | ok t' ρ' =>
          rw [ec] at q1
          simp only at q1
          split at q1
          · rename_i hst
            intro v s' ot h1 h2 h3 h4 h5
            refine ⟨?_, q1 v s' ot h1 h2 h3 h4 h5⟩
            unfold isStrT at hst
            split at hst
            · have := TmR.toD _ _ _ (show TmR G s'.H s'.fz pr (.v _ (.str _)) v ot from h4.rel)
              simp only [toD, Rep] at this
              exact ⟨_, this⟩
            · cases hst
          · exact q1.elim
        | ex e' ρ' => rw [ec] at q1; exact q1.elim
        | no => rw [ec] at q1; exact q1.elim
      exact call_read hn r1 x1 (Tps.cons (o2 := []) (ts := []) (vs := []) p1 r1 (Ext.refl _) ⟨by simp [TmTs], .nil, fun a ha => by cases ha⟩ Frs.nil) (f1.app Frs.nil) (fun _ _ _ h => h) q2
    · rw [if_neg hob] at q1; exact q1.elim

/-! ### isinstance(x, T), T a built-in type -/
inductive Ty | non | bl | int | str | tup | lst | dic
  deriving DecidableEq
def tyD : D → Option Ty
  | .non => some .non
  | .bl _ => some .bl
  | .int _ => some .int
  | .str _ => some .str
  | .tup _ => some .tup
  | .lst _ => some .lst
  | .dK _ _ => some .dic
  | _ => none
def Ty.nm : Ty → String
  | .non => "NoneType" | .bl => "bool" | .int => "int" | .str => "str" | .tup => "tuple" | .lst => "list" | .dic => "dict"
def isiB (a T : Ty) : Bool := decide (a = T) || (decide (a = .bl) && decide (T = .int))
theorem tyX_of {K : PySem.W.Frag} {H : Hp} {P : Addr → Prop} {d : D} {v : V} {t : Ty} (h : Rep G H P d v) (e : tyD d = some t) : TyX K H v (.type t.nm) := by
  cases d <;> simp only [tyD, reduceCtorEq, Option.some.injEq] at e <;> subst e <;> simp only [Rep] at h
  · subst h; exact .base .non
  · subst h; exact .base (.bl _)
  · subst h; exact .base (.int _)
  · subst h; exact .base (.str _)
  · obtain ⟨a, vs, rfl, h1, _⟩ := h; exact .base (.tup h1)
  · obtain ⟨a, vs, rfl, _, h1, _⟩ := h; exact .base (.lst h1)
  · obtain ⟨a, vs, rfl, _, h1, _⟩ := h; exact .base (.dK h1)
def isiD (T : Ty) (d : D) : Option D := (tyD d).map fun a => .bl (isiB a T)
def eIsi (T : Ty) : Ev → Ev := eOp1 (rd1 (isiD T))
/-! ### all(xs) -/
def bsD : List D → Option (List Bool)
  | [] => some []
  | .bl i :: ds => (bsD ds).map (i :: ·)
  | _ => none
theorem bsD_map : ∀ ns : List Bool, bsD (ns.map .bl) = some ns
  | [] => rfl
  | n :: ns => by simp [bsD, bsD_map ns]
theorem bsD_eq : ∀ {ds : List D} {ns : List Bool}, bsD ds = some ns → ds = ns.map .bl
  | [], ns, e => by simp only [bsD, Option.some.injEq] at e; subst e; rfl
  | d :: ds, ns, e => by
    cases d <;> simp only [bsD, reduceCtorEq, Option.map_eq_some_iff] at e
    obtain ⟨ms, e, rfl⟩ := e
    rw [bsD_eq e]
    rfl
theorem reps_bs {H : Hp} {P : Addr → Prop} : ∀ {ns : List Bool} {vs : List V}, Reps G H P (ns.map .bl) vs → vs = ns.map V.bl
  | [], vs, h => by simpa [Reps] using h
  | n :: ns, vs, h => by
    simp only [List.map_cons, Reps, Rep] at h
    obtain ⟨v, r, rfl, rfl, h⟩ := h
    rw [reps_bs h]
    rfl
def allD : D → Option D
  | .lst xs => (bsD xs).map fun bs => .bl (bs.all id)
  | _ => none
def eAll : Ev → Ev := eOp1 (rd1 allD)
theorem v_all (hc : X.calm = true) (hm : X.mg "all" = none) (ha : PEv X G W ios a ga) (hg : Gl X "all" := by rfl) (hs : starEach [a] X.env = (false, eval a X.env) :: starEach [] X.env := by rfl) : PEv X G W ios (.Call (.Name "all" p) [a] [] pos) (eAll ga) :=
  v_b1 (cr_all hc) (Rd1.op (by
    intro H x dx d Q hx e q
    cases dx <;> simp only [allD, reduceCtorEq, Option.map_eq_some_iff] at e
    obtain ⟨bs, e, rfl⟩ := e
    simp only [Rep] at hx
    obtain ⟨a, vs, rfl, _, h1, h2⟩ := hx
    rw [bsD_eq e] at h2
    rw [reps_bs h2] at h1
    exact ⟨a, bs, rfl, .of h1, q _ fun P => by simp only [Rep]⟩)) hm ha hg (hs := hs)

/-! ### sorted(xs), pairs of ints -/
def pI (p : Int × Int) : D := .tup [.int p.1, .int p.2]
def pairsD : List D → Option (List (Int × Int))
  | [] => some []
  | .tup [.int i, .int j] :: ds => (pairsD ds).map ((i, j) :: ·)
  | _ => none
/-- by the first, then by the second -/
def leP (x y : Int × Int) : Bool := decide (x.1 < y.1) || (decide (x.1 = y.1) && decide (x.2 ≤ y.2))
def psort (ps : List (Int × Int)) : List (Int × Int) := ps.mergeSort leP
def opSortP (t : Tm) : Option Tm := match toD t with
  | .lst xs => (pairsD xs).map fun ps => .v .O (.lst ((psort ps).map pI))
  | _ => none
def opSort2 (t : Tm) : Option Tm := match opSort t with
  | some r => some r
  | none => opSortP t
def eSort2 : Ev → Ev := eOp1 opSort2
end
end PV

namespace PV
open PySem PySem.Spec L2
/-! chained comparisons, enumerate over lists, in over data, texts in tuples, a method of a new list -/
section
variable {G : Gx} {W : WX} {pr : Addr → Prop} {io : List (Nat × V)} {σ : L2.St} {s s1 s2 : Sx} {ios : List Nat} {Q : VK} {X : Cx} {a b c e o d : Expr} {es : List Expr} {pos p pos2 p2 tpos apos cpos : Pos} {x m : Str} {ga gb gc gd gi g0 : Ev} {gs gk : Ss → OuL} {kk : Nat} {elts : List Expr}
/-! ### a <= b <= c -/
def chK (f : Tm → Tm → Option Tm) (t u : Tm) (ρ : Ss) (k : Ss → Ou) : Ou := match derT ρ t, derT ρ u with
  | some x, some y => match f x y with
    | some (.v .F (.bl true)) => k ρ
    | some (.v .F (.bl false)) => .ok (.v .F (.bl false)) ρ
    | _ => .no
  | _, _ => .no
def chE (f : Tm → Tm → Option Tm) (t u : Tm) (ρ : Ss) : Ou := match derT ρ t, derT ρ u with
  | some x, some y => match f x y with
    | some r => .ok r ρ
    | _ => .no
  | _, _ => .no
def eCh2 (f g : Tm → Tm → Option Tm) (ga gb gc : Ev) : Ev := fun ρ => (ga ρ).bind fun t ρ1 => (gb ρ1).bind fun u ρ2 => chK f t u ρ2 fun ρ2 => (gc ρ2).bind fun w ρ3 => chE g u w ρ3
def eCh3 (f g h : Tm → Tm → Option Tm) (ga gb gc gd : Ev) : Ev := fun ρ => (ga ρ).bind fun t ρ1 => (gb ρ1).bind fun u ρ2 => chK f t u ρ2 fun ρ2 => (gc ρ2).bind fun w ρ3 => chK g u w ρ3 fun ρ3 => (gd ρ3).bind fun z ρ4 => chE h w z ρ4
def tChain3 (r r' r'' : R2) (ta tb tc td : TE) : TE := fun σ H Q => ta σ H fun x H1 => tb σ H1 fun y H2 => r x y H2 fun z H3 => ∃ k, z = .bl k ∧
  (if k = true then tc σ H3 fun w H4 => r' y w H4 fun z H5 => ∃ k, z = .bl k ∧ (if k = true then td σ H5 fun v H6 => r'' w v H6 Q else Q (.bl false) H5) else Q (.bl false) H3)
/-! ### enumerate over a list or a tuple -/
def itemsEnA : Tm → Option (List Tm)
  | .v k (.tup xs) => some ((enumD 0 xs).map (subK k))
  | .v k (.lst xs) => some ((enumD 0 xs).map (subK k))
  | _ => none
def itEnA (g : Ev) : Iv := fun ρ => (g ρ).bindL fun t ρ1 => match itemsEnA t with
  | some ts => .ok ts ρ1
  | none => .no
theorem i_enA (hm : X.mg "enumerate" = none) (ha : PEv X G W ios a ga) (hg : Gl X "enumerate" := by rfl) (hs : starEach [a] X.env = [(false, eval a X.env)] := by rfl) : PIv X G W ios (.Tuple elts kk tpos) (.Call (.Name "enumerate" p) [a] [] pos) (itEnA ga) := by
  refine ⟨fun pins s σ H R I q => ?_⟩
  obtain ⟨pr, io, s, rfl, hi, r, q⟩ := q
  have hE : itEnA ga s.ρ = itEnT ga s.ρ ∨ ∃ k xs ρ', ga s.ρ = .ok (.v k (.lst xs)) ρ' ∧ itEnA ga s.ρ = .ok ((enumD 0 xs).map (subK k)) ρ' := by
    unfold itEnA itEnT
    cases eg : ga s.ρ with
    | no => exact .inl rfl
    | ex e ρ' => exact .inl rfl
    | ok t ρ' =>
      cases t with
      | v k d => cases d <;> first | exact .inl rfl | exact .inr ⟨_, _, _, rfl, rfl⟩
      | _ => exact .inl rfl
  rcases hE with hE | ⟨k, xs, ρ', eg, hE⟩
  · rw [hE] at q
    exact (i_enT (tpos := tpos) (kk := kk) (elts := elts) hm ha hg hs).run pins _ σ _ R I ⟨pr, io, s, rfl, hi, r, q⟩
  · rw [hE] at q
    refine (pi_enum (tpos := tpos) hg hm (pa_cons ha pa_nil hs) hs).run pins _ σ _ R I ?_
    show tEv G W ios ga σ s.H (fun x H1 => ∃ a xs, [x] = [.ref a] ∧ SqL X.K H1 a xs ∧ R (Ite X.K a) H1)
    refine tEv_of hi r ?_
    rw [eg]
    intro v s1 ot e1 r1 x1 p1 f1
    subst e1
    obtain ⟨a, vs, rfl, h1, h2, n1⟩ := lst_no p1 r1
    refine ⟨a, vs, rfl, .of h1, q _ s1 rfl r1 x1 ⟨fun H => SqL X.K H a vs, YPair (fun i => some (.int (i : Nat))) (fun i => vs[i]?), ?_, fun s2 σ2 r2 x2 => ⟨SqL.of (x2.keep _ _ h1 n1), fun i x H' hlt y => ?_⟩⟩⟩
    · rw [List.length_map, enumD_len, h2.len]; exact walk_enum
    · obtain ⟨T, u, w, rfl, hT, rfl, hu, hw⟩ := y
      rw [List.length_map, enumD_len] at hlt
      cases hu
      have h2' := Tp.reps (v := .non) (ot := []) r1 h2 x2
      obtain ⟨w', hw', hd⟩ := h2'.get (List.getElem?_eq_getElem hlt)
      dsimp only at hw; rw [hw] at hw'; cases hw'
      refine ⟨s2.new T _, _, rfl, rfl, r2.new hT _, Ext.new hT _, ?_, new_pair (x := .int ((i : Nat) : Int)) r2 hT (by simp only [Rep]) hd⟩
      rw [List.getElem?_map, enumD_at _ _ _ _ (List.getElem?_eq_getElem hlt), Nat.zero_add]
      rfl

/-! ### in over data -/
def strsT : List D → Option (List Str)
  | [] => some []
  | .str a :: ds => (strsT ds).map (a :: ·)
  | _ => none
theorem strsT_eq : ∀ {ds : List D} {l : List Str}, strsT ds = some l → ds = l.map D.str
  | [], l, h => by cases h; rfl
  | .str a :: ds, l, h => by
    simp only [strsT, Option.map_eq_some_iff] at h
    obtain ⟨l', h, rfl⟩ := h
    rw [strsT_eq h]; rfl
  | .non :: _, l, h => by simp [strsT] at h
  | .bl _ :: _, l, h => by simp [strsT] at h
  | .int _ :: _, l, h => by simp [strsT] at h
  | .tup _ :: _, l, h => by simp [strsT] at h
  | .lst _ :: _, l, h => by simp [strsT] at h
  | .dK _ _ :: _, l, h => by simp [strsT] at h
  | .dT _ _ :: _, l, h => by simp [strsT] at h
  | .ins _ _ :: _, l, h => by simp [strsT] at h
  | .scr _ :: _, l, h => by simp [strsT] at h
  | .kt :: _, l, h => by simp [strsT] at h
/-- a text in a tuple of texts, a datum in a list -/
def inP (neg : Bool) (x y : D) : Option D := match x, y with
  | .str a, .tup ys => (strsT ys).map fun l => .bl (if neg then !decide (a ∈ l) else decide (a ∈ l))
  | x, .lst ys => match toPy x, toPys ys with
    | some p, some qs => if SeqAt.shaped p = true ∧ SeqAt.shaped (.list qs) = true then some (.bl (if neg then !(qs.any fun z => PyData.eqv z p) else qs.any fun z => PyData.eqv z p)) else none
    | _, _ => none
  | _, _ => none
def inE (neg : Bool) (x y : D) : Option D := match inD neg x y with
  | some r => some r
  | none => inP neg x y
theorem inV_strs (a : Str) : ∀ ns : List Str, inV (.str a) (ns.map V.str) = decide (a ∈ ns)
  | [] => rfl
  | n :: ns => by
    have ih := inV_strs a ns
    unfold inV at ih ⊢
    rw [List.map_cons, List.any_cons, ih]
    show (n == a || decide (a ∈ ns)) = decide (a ∈ n :: ns)
    by_cases h : n = a
    · subst h; simp
    · have : ¬ a = n := fun z => h z.symm
      simp [h, this]
theorem flatV_strs (ns : List Str) : (ns.map V.str).all flatV = true := by
  rw [List.all_eq_true]
  intro v hv
  obtain ⟨n, _, rfl⟩ := List.mem_map.mp hv
  rfl
def rInA (K : PySem.W.Frag) (neg : Bool) : R2 := fun x y H Q => rIn K neg x y H Q ∨ (if neg then rNotInD K x y H Q else rInD K x y H Q)
theorem rdInE {K : PySem.W.Frag} (neg : Bool) : Rd2 G (inE neg) (rInA K neg) := by
  intro H x y dx dy d Q hx hy e q
  unfold inE at e
  cases e0 : inD neg dx dy with
  | some r =>
    rw [e0] at e
    cases e
    exact .inl (rdIn neg H x y dx dy _ Q hx hy e0 q)
  | none =>
    rw [e0] at e
    dsimp only at e
    unfold inP at e
    split at e
    · rename_i a ys
      simp only [Option.map_eq_some_iff] at e
      obtain ⟨l, e, rfl⟩ := e
      simp only [Rep] at hx hy
      subst hx
      obtain ⟨a', vs, rfl, h1, h2⟩ := hy
      rw [strsT_eq e] at h2
      rw [reps_strs h2] at h1
      exact .inl ⟨a', _, rfl, .inr (.of h1), rfl, flatV_strs l, by rw [inV_strs]; exact q _ fun P => by simp only [Rep]⟩
    · rename_i ys
      split at e
      · rename_i p qs e1 e2
        split at e
        · rename_i hs
          cases e
          have hd1 := Rep.dp (K := K) _ _ _ hx e1
          have hd2 := Rep.dp (K := K) (.lst ys) _ (.list qs) hy (by simp only [toPy, e2, Option.map_some])
          refine .inr ?_
          cases neg with
          | false => rw [if_neg Bool.false_ne_true]; exact ⟨p, qs, hd1, hd2, hs.1, hs.2, q _ fun P => by simp only [Rep]; rfl⟩
          | true => rw [if_pos rfl]; exact ⟨p, qs, hd1, hd2, hs.1, hs.2, q _ fun P => by simp only [Rep]; rfl⟩
        · cases e
      · cases e
    · cases e
def eInE : Ev → Ev → Ev := eOp2 (rd2 (inE false))
def eNotInE : Ev → Ev → Ev := eOp2 (rd2 (inE true))
theorem op_inA {k : Nat} (hr : Room k X.A) : OpR X (compareOp .In) (rInA X.K false) := op_in_seq.or (op_inD (by have := hr.un; omega))
theorem t_inE {k : Nat} (hr : Room k X.A) (ha : PEv X G W ios a ga) (hb : PEv X G W ios b gb) (hm : behindInMarks .In b = false := by rfl) : PTv X G W ios (.Compare a [.In] [b] pos) (eInE ga gb) := t_cmp (op_inA hr) (Rd2.op (rdInE false)) ha hb hm
/-! ### a method of a list that nobody else has: e.m(x, ..) -/
def eNm (op : List D → List D → Option (D × List D)) (g : Ev) (gs : Ss → OuL) : Ev := fun ρ => (g ρ).bind fun t ρ1 => match t with
  | .v .O (.lst xs) => (gs ρ1).bind fun ts ρ2 => match frzs ts with
    | some ds => match op xs ds with
      | some (x, xs') => if xs'.length ≤ sizeLine then .ok (.v .F x) ρ2 else .no
      | none => .no
    | none => .no
  | _ => .no
variable {name : Str} {apos : Pos} {id : String} {rr : V → List V → Hp → VK → Prop} {op : List D → List D → Option (D × List D)}
/-! ### sorted(set(xs)): fewer than 64 different ones -/
def rSortedSet2 (w : World) (ns : List Int) : List V → Hp → VK → Prop := fun vs H Q => ∃ (a : Addr) (n : Nat), vs = [V.ref a] ∧ H a = some (SetO w a (fun k => decide (k ∈ ns)) n) ∧ (usort ns).length < 64 ∧
  ∀ (p : Addr), H p = none → Q (.ref p) (upd H p (.lst ((usort ns).map V.int)))
def ssD2 (xs : List D) : Option Tm := match intsD xs with
  | some ns => if ns.length + 1 < scanBound ∧ (usort ns).length < 64 then some (.v .O (.lst ((usort ns).map .int))) else none
  | none => none
def opSS2 (t : Tm) : Option Tm := match toD t with
  | .lst xs => ssD2 xs
  | .tup xs => ssD2 xs
  | .kt => some (.v .O (.lst []))
  | _ => none
def eSortSet2 : Ev → Ev := eOp1 opSS2
/-! ### repr of a bool, of None, of a text -/
def boS (b : Bool) : Str := if b then "True" else "False"
def reprD2 : D → Option D
  | .bl b => some (.str (boS b))
  | .non => some (.str "None")
  | .str x => if (reprText x).length ≤ sizeLine then some (.str (reprText x)) else none
  | d => reprD d
def rRepr2 (X : Cx) : List V → Hp → VK → Prop := fun vs H Q => (∃ b, vs = [.bl b] ∧ Q (.str (boS b)) H) ∨ (vs = [.non] ∧ Q (.str "None") H) ∨ (∃ x, vs = [.str x] ∧ (reprText x).length ≤ sizeLine ∧ Q (.str (reprText x)) H) ∨ rRepr X vs H Q
theorem cr_repr2 {k : Nat} (hr : RoomG k X.A) : CallR X (.builtin "repr") (rRepr2 X) := by
  intro pins s σ H vs us Q I r h
  rcases h with ⟨b, rfl, q⟩ | ⟨rfl, q⟩ | ⟨x, rfl, hz, q⟩ | h
  · cases r with
    | cons ry rt =>
      cases rt
      cases ry
      exact PySem.P.repr_of_bool ⟨.str _, H, I.tok _, ⟨_, rfl⟩, q⟩
  · cases r with
    | cons ry rt =>
      cases rt
      cases ry
      exact PySem.P.repr_of_none ⟨.str _, H, I.tok _, ⟨_, rfl⟩, q⟩
  · cases r with
    | cons ry rt =>
      cases rt
      obtain ⟨t, rfl⟩ := ry
      exact PySem.P.repr_of_str ⟨.str _, H, I.tok _, ⟨_, rfl⟩, q⟩ hz
  · exact cr_repr hr pins s σ H vs us Q I r h
def eRepr2 : Ev → Ev := eOp1 (rd1 reprD2)
theorem rd_repr : Rd1 G reprD (fun x H Q => rRepr X [x] H Q) := by
  intro H x dx d Q hx e q
  unfold reprD at e
  split at e
  · rename_i ds ed
    split at e
    · rename_i hc
      cases e
      have hp := Rep.dp (K := X.K) _ _ _ hx ed
      cases dx <;> simp only [toPy, Option.some.injEq, reduceCtorEq, Option.map_eq_some_iff, and_false, exists_false] at ed
      simp only [Rep] at hx
      obtain ⟨a, vs, rfl, _⟩ := hx
      exact .inr ⟨a, _, rfl, hp, hc.1, hc.2.1, hc.2.2.1, hc.2.2.2, q _ fun P => by simp only [Rep]⟩
    · cases e
  · rename_i ds ed
    split at e
    · rename_i hc
      cases e
      have hp := Rep.dp (K := X.K) _ _ _ hx ed
      cases dx <;> simp only [toPy, Option.some.injEq, reduceCtorEq, Option.map_eq_some_iff, and_false, exists_false] at ed
      simp only [Rep] at hx
      obtain ⟨a, vs, rfl, _⟩ := hx
      exact .inr ⟨a, _, rfl, hp, hc.1, hc.2.1, hc.2.2.1, hc.2.2.2, q _ fun P => by simp only [Rep]⟩
    · cases e
  · rename_i i ed
    split at e
    · rename_i hc
      cases e
      cases dx <;> simp only [toPy, Option.some.injEq, reduceCtorEq, Option.map_eq_some_iff, and_false, exists_false, PyData.int.injEq] at ed
      subst ed
      simp only [Rep] at hx
      subst hx
      exact .inl ⟨_, rfl, hc, q _ fun P => by simp only [Rep]⟩
    · cases e
  · cases e
theorem rd_repr2 : Rd1 G reprD2 (fun x H Q => rRepr2 X [x] H Q) := by
  intro H x dx d Q hx e q
  unfold reprD2 at e
  split at e
  · cases e
    simp only [Rep] at hx
    subst hx
    exact .inl ⟨_, rfl, q _ fun P => by simp only [Rep]⟩
  · cases e
    simp only [Rep] at hx
    subst hx
    exact .inr (.inl ⟨rfl, q _ fun P => by simp only [Rep]⟩)
  · split at e
    · rename_i hz
      cases e
      simp only [Rep] at hx
      subst hx
      exact .inr (.inr (.inl ⟨_, rfl, hz, q _ fun P => by simp only [Rep]⟩))
    · cases e
  · exact .inr (.inr (.inr (rd_repr H x dx d Q hx e q)))
theorem v_repr2 {k : Nat} (hr : RoomG k X.A) (hm : X.mg "repr" = none) (ha : PEv X G W ios a ga) (hg : Gl X "repr" := by rfl) (hs : starEach [a] X.env = (false, eval a X.env) :: starEach [] X.env := by rfl) : PEv X G W ios (.Call (.Name "repr" p) [a] [] pos) (eRepr2 ga) :=
  v_b1 (cr_repr2 hr) (Rd1.op rd_repr2) hm ha hg (hs := hs)
end
end PV

namespace PV
open PySem PySem.Spec L2
/-! what a name owns is lent to one expression -/
mutual
def eqDd : D → D → Bool
  | .non, .non => true
  | .bl a, .bl b => a == b
  | .int a, .int b => decide (a = b)
  | .str a, .str b => decide (a = b)
  | .tup a, .tup b => eqDs a b
  | .lst a, .lst b => eqDs a b
  | .dK k a, .dK l b => decide (k = l) && eqDs a b
  | .dT k a, .dT l b => eqDs k l && eqDs a b
  | .ins c a, .ins e b => decide (c = e) && eqDs a b
  | .scr a, .scr b => decide (a = b)
  | .kt, .kt => true
  | .err c a, .err e b => decide (c = e) && eqDs a b
  | .unk a, .unk b => decide (a = b)
  | .cls a, .cls b => decide (a = b)
  | _, _ => false
def eqDs : List D → List D → Bool
  | [], [] => true
  | a :: as, b :: bs => eqDd a b && eqDs as bs
  | _, _ => false
end
mutual
theorem eqDd_eq : ∀ (a b : D), eqDd a b = true → a = b := fun a b h => by
  cases a <;> cases b <;> simp only [eqDd, Bool.and_eq_true, decide_eq_true_eq, Bool.false_eq_true, beq_iff_eq, reduceCtorEq] at h <;> first
    | rfl
    | (subst h; rfl)
    | (rw [eqDs_eq _ _ h])
    | (obtain ⟨rfl, h⟩ := h; rw [eqDs_eq _ _ h])
    | (obtain ⟨h1, h2⟩ := h; rw [eqDs_eq _ _ h1, eqDs_eq _ _ h2])
theorem eqDs_eq : ∀ (a b : List D), eqDs a b = true → a = b
  | [], [], _ => rfl
  | a :: as, b :: bs, h => by
    simp only [eqDs, Bool.and_eq_true] at h
    rw [eqDd_eq a b h.1, eqDs_eq as bs h.2]
  | [], b :: bs, h => by simp [eqDs] at h
  | a :: as, [], h => by simp [eqDs] at h
end
mutual
theorem eqDd_refl : ∀ a : D, eqDd a a = true := fun a => by
  cases a <;> simp only [eqDd, decide_true, Bool.true_and, beq_self_eq_true] <;> first | exact eqDs_refl _ | (rw [eqDs_refl, eqDs_refl]; rfl)
theorem eqDs_refl : ∀ a : List D, eqDs a a = true
  | [] => by simp [eqDs]
  | a :: as => by simp only [eqDs, eqDd_refl a, eqDs_refl as, Bool.and_self]
end
mutual
def eqT : Tm → Tm → Bool
  | .v k a, .v l b => decide (k = l) && eqDd a b
  | .tp a, .tp b => eqTs a b
  | .ls a, .ls b => eqTs a b
  | .ob c a, .ob e b => decide (c = e) && eqTs a b
  | .loc i, .loc j => decide (i = j)
  | _, _ => false
def eqTs : List Tm → List Tm → Bool
  | [], [] => true
  | a :: as, b :: bs => eqT a b && eqTs as bs
  | _, _ => false
end
mutual
theorem eqT_eq : ∀ (a b : Tm), eqT a b = true → a = b := fun a b h => by
  cases a <;> cases b <;> simp only [eqT, Bool.and_eq_true, decide_eq_true_eq, Bool.false_eq_true, reduceCtorEq] at h <;> first
    | (rw [eqTs_eq _ _ h])
    | (obtain ⟨rfl, h⟩ := h; first | rw [eqTs_eq _ _ h] | rw [eqDd_eq _ _ h])
    | (subst h; rfl)
theorem eqTs_eq : ∀ (a b : List Tm), eqTs a b = true → a = b
  | [], [], _ => rfl
  | a :: as, b :: bs, h => by
    simp only [eqTs, Bool.and_eq_true] at h
    rw [eqT_eq a b h.1, eqTs_eq as bs h.2]
  | [], b :: bs, h => by simp [eqTs] at h
  | a :: as, [], h => by simp [eqTs] at h
end
mutual
theorem eqT_refl : ∀ a : Tm, eqT a a = true := fun a => by
  cases a <;> simp only [eqT, decide_true, Bool.true_and, eqDd_refl] <;> exact eqTs_refl _
theorem eqTs_refl : ∀ a : List Tm, eqTs a a = true
  | [] => by simp [eqTs]
  | a :: as => by simp only [eqTs, eqT_refl a, eqTs_refl as, Bool.and_self]
end
def eqSs : Ss → Ss → Bool
  | [], [] => true
  | none :: as, none :: bs => eqSs as bs
  | some a :: as, some b :: bs => eqT a b && eqSs as bs
  | _, _ => false
theorem eqSs_eq : ∀ (a b : Ss), eqSs a b = true → a = b
  | [], [], _ => rfl
  | none :: as, none :: bs, h => by simp only [eqSs] at h; rw [eqSs_eq as bs h]
  | some a :: as, some b :: bs, h => by
    simp only [eqSs, Bool.and_eq_true] at h
    rw [eqT_eq a b h.1, eqSs_eq as bs h.2]
  | [], none :: bs, h => by simp [eqSs] at h
  | [], some b :: bs, h => by simp [eqSs] at h
  | none :: as, [], h => by simp [eqSs] at h
  | some a :: as, [], h => by simp [eqSs] at h
  | none :: as, some b :: bs, h => by simp [eqSs] at h
  | some a :: as, none :: bs, h => by simp [eqSs] at h
theorem eqSs_refl : ∀ a : Ss, eqSs a a = true
  | [] => rfl
  | none :: as => by simp only [eqSs, eqSs_refl as]
  | some a :: as => by simp only [eqSs, eqT_refl a, eqSs_refl as, Bool.and_self]
mutual
def noB : Tm → Bool
  | .v .B _ => false
  | .v .F _ => true
  | .v .O _ => true
  | .tp ts => noBs ts
  | .ls ts => noBs ts
  | .ob _ ts => noBs ts
  | .loc _ => false
def noBs : List Tm → Bool
  | [] => true
  | t :: ts => noB t && noBs ts
end
mutual
theorem TmR.noB {G : Gx} {H : Hp} {fz pr pr' : Addr → Prop} : ∀ (t : Tm) (v : V) (os : List Addr), noB t = true → TmR G H fz pr t v os → TmR G H fz pr' t v os
  | .v .F d, v, os, _, h => by simp only [TmR] at h ⊢; exact h
  | .v .B d, v, os, e, h => by simp [PV.noB] at e
  | .v .O d, v, os, _, h => by simp only [TmR] at h ⊢; exact h
  | .tp ts, v, os, e, h => by
    simp only [TmR, PV.noB] at h e ⊢
    obtain ⟨a, vs, e1, h1, h2⟩ := h
    exact ⟨a, vs, e1, h1, TmRs.noB ts vs os e h2⟩
  | .ls ts, v, os, e, h => by
    simp only [TmR, PV.noB] at h e ⊢
    obtain ⟨a, vs, o, e1, e2, h1, h2⟩ := h
    exact ⟨a, vs, o, e1, e2, h1, TmRs.noB ts vs o e h2⟩
  | .ob c ts, v, os, e, h => by
    simp only [TmR, PV.noB] at h e ⊢
    obtain ⟨a, dx, vs, o, e1, e2, h1, hl, h2⟩ := h
    exact ⟨a, dx, vs, o, e1, e2, h1, hl, TmRs.noB ts vs o e h2⟩
  | .loc i, v, os, e, h => by simp [PV.noB] at e
theorem TmRs.noB {G : Gx} {H : Hp} {fz pr pr' : Addr → Prop} : ∀ (ts : List Tm) (vs : List V) (os : List Addr), noBs ts = true → TmRs G H fz pr ts vs os → TmRs G H fz pr' ts vs os
  | [], vs, os, _, h => by simp only [TmRs] at h ⊢; exact h
  | t :: ts, vs, os, e, h => by
    simp only [TmRs, noBs, Bool.and_eq_true] at h e ⊢
    obtain ⟨v, r, o1, o2, e1, e2, h1, h2⟩ := h
    exact ⟨v, r, o1, o2, e1, e2, TmR.noB t v o1 e.1 h1, TmRs.noB ts r o2 e.2 h2⟩
end
def okB1 : Tm → Bool
  | .v _ _ => true
  | t => noB t
def okB : Ss → Bool
  | [] => true
  | none :: ρ => okB ρ
  | some t :: ρ => okB1 t && okB ρ
section
variable {G : Gx} {H H' : Hp} {fz fz' pr pr' : Addr → Prop}
theorem TmR.back {t : Tm} {v : V} {o o' : List Addr} (e : okB1 t = true) (h' : TmR G H' fz' pr' t v o') (h : TmR G H fz pr t v o) (hf : ∀ a, fz a → fz' a) (hk : ∀ a u, (fz a ∨ pr a) → H a = some u → H' a = some u) (ht : Tk H H') : TmR G H' fz' pr t v o' := by
  cases t with
  | v k d =>
    cases k with
    | F => simp only [TmR] at h' ⊢; exact h'
    | O => simp only [TmR] at h' ⊢; exact h'
    | B =>
      simp only [TmR] at h h' ⊢
      exact ⟨h'.1, Rep.keep (fun a p => p.imp (hf a) id) (fun a u p => hk a u p) ht _ _ h.2⟩
  | tp ts => exact TmR.noB _ _ _ (by simpa [okB1] using e) h'
  | ls ts => exact TmR.noB _ _ _ (by simpa [okB1] using e) h'
  | ob c ts => exact TmR.noB _ _ _ (by simpa [okB1] using e) h'
  | loc i => simp [okB1, PV.noB] at e
theorem Sl.back0 (hf : ∀ a, fz a → fz' a) (hk : ∀ a u, (fz a ∨ pr a) → H a = some u → H' a = some u) (ht : Tk H H') : ∀ {ρ : Ss} {σ : L2.St} {o o' : List Addr}, okB ρ = true → Sl G H' fz' pr' ρ σ o' → Sl G H fz pr ρ σ o → Sl G H' fz' pr ρ σ o'
  | [], σ, o, o', _, h', h => by simp only [Sl] at h' ⊢; exact h'
  | none :: ρ, σ, o, o', e, h', h => by
    simp only [Sl, okB] at h h' e ⊢
    obtain ⟨x, r, e1, h'⟩ := h'
    obtain ⟨x2, r2, e2, h⟩ := h
    rw [e1] at e2
    cases e2
    exact ⟨x, r, e1, Sl.back0 hf hk ht e h' h⟩
  | some t :: ρ, σ, o, o', e, h', h => by
    simp only [Sl, okB, Bool.and_eq_true] at h h' e ⊢
    obtain ⟨v, r, o1, o2, e1, e2, h1, h2⟩ := h'
    obtain ⟨v', r', p1, p2, e3, e4, k1, k2⟩ := h
    rw [e1] at e3
    cases e3
    exact ⟨v, r, o1, o2, e1, e2, TmR.back e.1 h1 k1 hf hk ht, Sl.back0 hf hk ht e.2 h2 k2⟩
theorem Sl.back {tb t : Tm} {v : V} {o2 : List Addr} (hb : ∀ w q, TmR G H' fz' pr' tb w q → q = []) (hf : ∀ a, fz a → fz' a) (hk : ∀ a u, (fz a ∨ pr a) → H a = some u → H' a = some u) (ht : Tk H H') (h2 : TmR G H' fz' pr t v o2) :
    ∀ {ρ : Ss} {i : Nat} {σ : L2.St} {o o' : List Addr}, okB ρ = true → ρ[i]? = some (some t) → σ[i]? = some (some v) → Sl G H' fz' pr' (ρ.set i (some tb)) σ o' → Sl G H fz pr ρ σ o → ∃ o1 o3, o' = o1 ++ o3 ∧ Sl G H' fz' pr ρ σ (o1 ++ (o2 ++ o3))
  | [], i, σ, o, o', _, e, _, _, _ => by simp at e
  | none :: ρ, 0, σ, o, o', _, e, _, _, _ => by simp at e
  | none :: ρ, i + 1, σ, o, o', e, e0, ev, h', h => by
    simp only [Sl, okB, List.set_cons_succ, List.getElem?_cons_succ] at h h' e e0 ⊢
    obtain ⟨x, r, e1, h'⟩ := h'
    obtain ⟨x2, r2, e2, h⟩ := h
    subst e1
    cases e2
    obtain ⟨o1, o3, e4, h4⟩ := Sl.back hb hf hk ht h2 e e0 (by simpa using ev) h' h
    exact ⟨o1, o3, e4, x, r, rfl, h4⟩
  | some t0 :: ρ, 0, σ, o, o', e, e0, ev, h', h => by
    simp only [Sl, okB, List.set_cons_zero, Bool.and_eq_true] at h h' e ⊢
    obtain ⟨w, r, q1, q2, e1, e2, k1, k2⟩ := h'
    obtain ⟨v', r', p1, p2, e3, e4, m1, m2⟩ := h
    subst e1
    cases e3
    have et : t0 = t := by simpa using e0
    subst et
    have evv : w = v := by simpa using ev
    subst evv
    have := hb _ _ k1
    subst this
    refine ⟨[], o', rfl, ?_⟩
    rw [List.nil_append] at e2
    subst e2
    exact ⟨w, r, o2, o', rfl, rfl, h2, Sl.back0 hf hk ht e.2 k2 m2⟩
  | some t0 :: ρ, i + 1, σ, o, o', e, e0, ev, h', h => by
    simp only [Sl, okB, List.set_cons_succ, List.getElem?_cons_succ, Bool.and_eq_true] at h h' e e0 ⊢
    obtain ⟨w, r, q1, q2, e1, e2, k1, k2⟩ := h'
    obtain ⟨v', r', p1, p2, e3, e4, m1, m2⟩ := h
    subst e1
    cases e3
    obtain ⟨o1, o3, e5, h5⟩ := Sl.back hb hf hk ht h2 e.2 e0 (by simpa using ev) k2 m2
    subst e2 e5
    exact ⟨q1 ++ o1, o3, by simp, w, r, q1, o1 ++ (o2 ++ o3), rfl, by simp, TmR.back e.1 k1 m1 hf hk ht, h5⟩
end
section
variable {G : Gx} {W : WX} {pr : Addr → Prop} {io : List (Nat × V)} {σ : L2.St} {s s1 s2 : Sx} {ios : List Nat} {Q : VK} {X : Cx} {a b c e o d : Expr} {es : List Expr} {pos p : Pos} {x m : Str} {ga gb gc g : Ev} {gs gk : Ss → OuL} {i : Nat}
abbrev lentT (t : Tm) : Tm := .v .B (toD t)
/-- the state while what the i-th name owns is lent -/
structure Lent (G : Gx) (pr : Addr → Prop) (io : List (Nat × V)) (σ : L2.St) (s : Sx) (i : Nat) (t : Tm) (v : V) (o2 : List Addr) (s0 : Sx) : Prop where
  H : s0.H = s.H
  fz : s0.fz = s.fz
  ρ : s0.ρ = s.ρ.set i (some (lentT t))
  cell : σ[i]? = some (some v)
  rel : TmR G s.H s.fz pr t v o2
  sub : ∀ a ∈ o2, a ∈ s.os
  nd : o2.Nodup
  out : ∀ a ∈ o2, a ∉ s0.os
  os : ∀ a ∈ s0.os, a ∈ s.os
  sr : SR G (fun a => pr a ∨ a ∈ o2) io σ s0
theorem set_noop {α : Type} : ∀ {l : List α} {i : Nat} {x : α}, l[i]? = some x → l.set i x = l
  | [], _, _, h => by simp at h
  | y :: l, 0, x, h => by simp at h; subst h; rfl
  | y :: l, i + 1, x, h => by rw [List.set_cons_succ, set_noop (by simpa using h)]
theorem SR.lend (r : SR G pr io σ s) {t : Tm} (e : s.ρ[i]? = some (some t)) : ∃ v o2 s0, Lent G pr io σ s i t v o2 s0 := by
  obtain ⟨v, o1, o2, o3, ev, eo, ht, hd⟩ := Sl.drop r.sl e
  have nd := r.nd
  rw [eo, List.nodup_append, List.nodup_append] at nd
  have hi : i < s.ρ.length := (List.getElem?_eq_some_iff.mp e).1
  have sl1 : Sl G s.H s.fz (fun a => pr a ∨ a ∈ o2) (s.ρ.set i none) σ (o1 ++ o3) := Sl.keep (fun _ h => h) (fun a h => .inr (.inl h)) (Tk.refl _) (fun a o _ e => e) hd
  have hb : TmR G s.H s.fz (fun a => pr a ∨ a ∈ o2) (lentT t) v [] := by
    show TmR G s.H s.fz (fun a => pr a ∨ a ∈ o2) (.v .B (toD t)) v []
    unfold TmR
    exact ⟨rfl, tm_toDP t v o2 ht⟩
  obtain ⟨p1, p2, p3, ep, sl2⟩ := Sl.put hb (i := i) sl1 (by rw [List.length_set]; exact hi)
  rw [List.set_set, set_noop ev] at sl2
  have hos : ∀ a, a ∈ p1 ++ ([] ++ p3) → a ∈ o1 ∨ a ∈ o3 := fun a ha => by
    have : a ∈ o1 ++ o3 := by rw [ep]; simp only [List.mem_append, List.nil_append] at ha ⊢; grind
    exact List.mem_append.mp this
  have ino : ∀ a, (a ∈ o1 ∨ a ∈ o2 ∨ a ∈ o3) → a ∈ s.os := fun a h => by rw [eo]; rcases h with h | h | h <;> simp [h]
  have h2 : ∀ a ∈ o2, a ∉ p1 ++ ([] ++ p3) := fun a ha z => by
    rcases hos a z with z | z
    · exact nd.2.2 a z a (List.mem_append_left _ ha) rfl
    · exact nd.2.1.2.2 a ha a z rfl
  refine ⟨v, o2, { s with ρ := s.ρ.set i (some (lentT t)), os := p1 ++ ([] ++ p3) }, rfl, rfl, rfl, ev, ht, fun a ha => ino a (.inr (.inl ha)), nd.2.1.1, h2, fun a ha => ino a ((hos a ha).imp id .inr), ⟨sl2, ?_, fun a ha => ?_, fun a ha => ?_, r.iov⟩⟩
  · have nd2 : (o1 ++ o3).Nodup := by simp only [List.nodup_append] at nd ⊢; grind
    rw [ep] at nd2
    show (p1 ++ ([] ++ p3)).Nodup
    simp only [List.nodup_append, List.nil_append] at nd2 ⊢
    grind
  · have hs := r.sep a (ino a ((hos a ha).imp id .inr))
    exact ⟨hs.1, fun z => z.elim hs.2 fun z => h2 a z ha⟩
  · rcases ha with ha | ha | ha
    · exact r.dom a (.inl ha)
    · exact r.dom a (.inr ha)
    · exact (r.own a (ino a (.inr (.inl ha)))).ne
theorem Lent.ext {t : Tm} {v : V} {o2 : List Addr} {s0 : Sx} (l : Lent G pr io σ s i t v o2 s0) (x : Ext s0 s1) : ∀ a u, (a ∈ o2 ∨ s.fz a ∨ pr a) → s.H a = some u → s1.H a = some u := fun a u h e => by
  refine x.keep a u (by rw [l.H]; exact e) fun z => ?_
  have hs := l.sr.sep a z
  rcases h with h | h | h
  · exact hs.2 (.inr h)
  · rw [l.fz] at hs; exact hs.1 h
  · exact hs.2 (.inl h)
/-- it comes back -/
theorem Lent.back {t : Tm} {v : V} {o2 : List Addr} {s0 : Sx} (r : SR G pr io σ s) (l : Lent G pr io σ s i t v o2 s0) (e : s.ρ[i]? = some (some t)) (ok : okB s.ρ = true) (r1 : SR G (fun a => pr a ∨ a ∈ o2) io σ s1) (x1 : Ext s0 s1) (eρ : s1.ρ = s.ρ.set i (some (lentT t))) :
    ∃ os', SR G pr io σ { s1 with ρ := s.ρ, os := os' } ∧ Ext s { s1 with ρ := s.ρ, os := os' } ∧ (∀ a ∈ os', a ∈ s1.os ∨ a ∈ o2) := by
  have tk : Tk s.H s1.H := by rw [← l.H]; exact x1.tk
  have hf : ∀ a, s.fz a → s1.fz a := fun a h => x1.fz a (by rw [l.fz]; exact h)
  have ht2 : TmR G s1.H s1.fz pr t v o2 := TmR.keep hf (fun a p => .inr p) tk _ _ _ (fun a u h => l.ext x1 a u h) l.rel
  have sl := r1.sl
  rw [eρ] at sl
  obtain ⟨o1, o3, eo, sl2⟩ := Sl.back (pr' := fun a => pr a ∨ a ∈ o2) (fun w q h => by simp only [TmR] at h; exact h.1) hf (fun a u h => l.ext x1 a u (.inr h)) tk ht2 ok e l.cell sl r.sl
  have nd := r1.nd
  rw [eo] at nd
  have h2 : ∀ a ∈ o2, a ∉ o1 ++ o3 := fun a ha z => (r1.sep a (by rw [eo]; exact z)).2 (.inr ha)
  have hos : ∀ a ∈ o1 ++ (o2 ++ o3), a ∈ s1.os ∨ a ∈ o2 := fun a ha => by
    rw [eo]
    simp only [List.mem_append] at ha ⊢
    grind
  have hdom : ∀ a, s.H a ≠ none → s1.H a ≠ none := fun a h => x1.dom a (by rw [l.H]; exact h)
  have bk : ∀ a ∈ s1.os, a ∈ s.os ∨ s.H a = none := fun a ha => by
    rcases x1.oso a ha with h | h
    · exact .inl (l.os a h)
    · exact .inr (by rw [← l.H]; exact h)
  refine ⟨o1 ++ (o2 ++ o3), ⟨sl2, ?_, fun a ha => ?_, fun a ha => ?_, r.iov⟩, ⟨fun a u eu n => ?_, hdom, tk, hf, fun a h => ?_, fun a ha => ?_⟩, hos⟩
  · have n2 := l.nd
    show (o1 ++ (o2 ++ o3)).Nodup
    simp only [List.nodup_append, List.mem_append] at nd h2 ⊢
    grind
  · rcases hos a ha with h | h
    · have := r1.sep a h
      exact ⟨this.1, fun z => this.2 (.inl z)⟩
    · have hs := r.sep a (l.sub a h)
      refine ⟨fun z => ?_, hs.2⟩
      rcases x1.fzo a z with z | z | z
      · rw [l.fz] at z; exact hs.1 z
      · exact l.out a h z
      · rw [l.H] at z; exact (r.own a (l.sub a h)).ne z
  · exact r1.dom a (ha.imp id .inl)
  · exact x1.keep a u (by rw [l.H]; exact eu) fun z => n (l.os a z)
  · rcases x1.fzo a h with z | z | z
    · rw [l.fz] at z; exact .inl z
    · exact .inr (.inl (l.os a z))
    · rw [l.H] at z; exact .inr (.inr z)
  · rcases hos a ha with h | h
    · exact bk a h
    · exact .inl (l.sub a h)
def eBor (i : Nat) (g : Ev) : Ev := fun ρ => match ρ[i]? with
  | some (some t) => if okB ρ = true then match g (ρ.set i (some (lentT t))) with
    | .ok u ρ' => match unB u with
      | some w => if eqSs ρ' (ρ.set i (some (lentT t))) = true then .ok w ρ else .no
      | none => .no
    | _ => .no
    else .no
  | _ => .no
theorem bor_read {H : Hp} (q : tEv G W ios (eBor i g) σ H Q) : tEv G W ios g σ H Q := by
  obtain ⟨pr, io, s, rfl, hi, r, q⟩ := of_tEv q
  unfold eBor at q
  cases e : s.ρ[i]? with
  | none => rw [e] at q; exact q.elim
  | some w =>
    cases w with
    | none => rw [e] at q; exact q.elim
    | some t =>
      rw [e] at q
      dsimp only at q
      by_cases ok : okB s.ρ = true
      · rw [if_pos ok] at q
        obtain ⟨v, o2, s0, l⟩ := r.lend e
        rw [← l.H]
        refine tEv_of hi l.sr ?_
        rw [l.ρ]
        cases eg : g (s.ρ.set i (some (lentT t))) with
        | no => rw [eg] at q; exact q.elim
        | ex e' ρ' => rw [eg] at q; exact q.elim
        | ok u ρ' =>
          rw [eg] at q
          dsimp only at q
          cases eu : unB u with
          | none => rw [eu] at q; exact q.elim
          | some w =>
            rw [eu] at q
            dsimp only at q
            by_cases he : eqSs ρ' (s.ρ.set i (some (lentT t))) = true
            · rw [if_pos he] at q
              have he := eqSs_eq _ _ he
              intro v1 s1 ot e1 r1 x1 p1 f1
              obtain ⟨os', r2, x2, hos⟩ := l.back r e ok r1 x1 (by rw [e1, he])
              have hu := TmR.unB (pr' := pr) _ _ _ _ (tm_of p1.rel (unB_loc eu).1) eu
              refine q v1 { s1 with ρ := s.ρ, os := os' } ot rfl r2 x2 ⟨?_, p1.nd, fun a ha => ?_⟩ fun a ha => ?_
              · have hnl := (unB_loc eu).2
                cases w with
                | loc j => simp [isLoc] at hnl
                | _ => exact hu
              · have hs := p1.sep a ha
                refine ⟨hs.1, fun z => hs.2.1 (.inl z), fun z => ?_⟩
                rcases hos a z with z | z
                · exact hs.2.2 z
                · exact hs.2.1 (.inr z)
              · rcases f1 a ha with z | z
                · exact .inl (l.os a z)
                · exact .inr (by rw [← l.H]; exact z)
            · rw [if_neg he] at q; exact q.elim
      · rw [if_neg ok] at q; exact q.elim
theorem v_bor (h : PEv X G W ios e g) : PEv X G W ios e (eBor i g) := pe_imp h fun σ H Q q => bor_read q
end
end PV

namespace PV
open PySem PySem.Spec L2
/-! lists that an object owns -/
section
variable {G : Gx} {W : WX} {pr : Addr → Prop} {io : List (Nat × V)} {σ : L2.St} {s s1 s2 : Sx} {ios : List Nat} {Q : VK} {X : Cx} {a b e o d ie : Expr} {es : List Expr} {pos p pos2 apos cpos : Pos} {x m f name : Str} {ga gb gc g gi : Ev} {gs gk : Ss → OuL} {i j c : Nat}
def borV (i : Nat) (g : Ev) (ρ : Ss) : Option Tm := match ρ[i]? with
  | some (some t) => if okB ρ = true then match g (ρ.set i (some (lentT t))) with
    | .ok u ρ' => match unB u with
      | some w => if eqSs ρ' (ρ.set i (some (lentT t))) = true then some w else none
      | none => none
    | _ => none
    else none
  | _ => none
def borL (i : Nat) (gs : Ss → OuL) (ρ : Ss) : Option (List Tm) := match ρ[i]? with
  | some (some t) => if okB ρ = true then match gs (ρ.set i (some (lentT t))) with
    | .ok us ρ' => match unBs us with
      | some ws => if eqSs ρ' (ρ.set i (some (lentT t))) = true then some ws else none
      | none => none
    | _ => none
    else none
  | _ => none
/-- the attribute j, a list, of the object in the slot i -/
def obA (ρ : Ss) (c i j : Nat) : Option (List Tm × List D) := match ρ[i]? with
  | some (some (.ob c' ts)) => if c' = c then match ts[j]? with
    | some (.v .O (.lst xs)) => some (ts, xs)
    | _ => none
    else none
  | _ => none
def setA (ρ : Ss) (c i j : Nat) (ts : List Tm) (xs : List D) : Ss := ρ.set i (some (.ob c (ts.set j (.v .O (.lst xs)))))
/-- self.f.m(e, ..) -/
def eLmA (op : List D → List D → Option (D × List D)) (c j i : Nat) (gs : Ss → OuL) : Ev := fun ρ => match obA ρ c i j with
  | some (ts, xs) => match borL i gs ρ with
    | some us => match frzs us with
      | some ds => match op xs ds with
        | some (x, xs') => if xs'.length ≤ sizeLine then .ok (.v .F x) (setA ρ c i j ts xs') else .no
        | none => .no
      | none => .no
    | none => .no
  | none => .no
variable {id : String} {rr : V → List V → Hp → VK → Prop} {op : List D → List D → Option (D × List D)}
end
end PV

namespace PV
open PySem PySem.Spec L2
/-! self.f[e] += n, self.f += xs -/
section
variable {G : Gx} {W : WX} {pr : Addr → Prop} {io : List (Nat × V)} {σ : L2.St} {s s1 s2 : Sx} {ios : List Nat} {Q : VK} {X : Cx} {a b e o d ie : Expr} {es : List Expr} {pos p pos2 tpos : Pos} {x f : Str} {ga gb gc g gi : Ev} {gs gk : Ss → OuL} {i j c : Nat}
def sAugA (c j i : Nat) (gi : Ev) (fo : Int → Int → Int) (g : Ev) : Sm := fun ρ => match obA ρ c i j with
  | some (ts, xs) => match (borV i gi ρ).bind asI with
    | some k => match L2.atI xs k with
      | some (.int m) => match (borV i g ρ).bind asI with
        | some n => match ixN xs.length k with
          | some jj => .nx (setA ρ c i j ts (xs.set jj (.int (fo m n))))
          | none => .no
        | none => .no
      | _ => .no
    | none => .no
  | none => .no
def sExtA (c j i : Nat) (g : Ev) : Sm := fun ρ => match obA ρ c i j with
  | some (ts, xs) => match borV i g ρ with
    | some t => match opExt xs t with
      | some zs => if zs.length ≤ sizeLine then .nx (setA ρ c i j ts zs) else .no
      | none => .no
    | none => .no
  | none => .no
end
/-! C() -/
section
open PyProof.Rows
variable {X : Cx} {k : Nat} {f C : Addr} {fd : FuncData} {ps : List Str} {sp : Sp} {E : L2.St → XK} {x : Str} {p pos : Pos} {g : List Value → List Value → List Value} {gV : List V → List V → List V}
end
section
variable {G : Gx} {W : WX} {ios : List Nat} {X : Cx} {pos p : Pos} {x : Str} {c k n : Nat} {fa : Addr} {fd : FuncData} {ps : List Str} {fn : Fn} {ms : List Md} {C : Addr} {g : List Value → List Value → List Value} {gV : List V → List V → List V} {dv : List V}
end
end PV

namespace PV
open PySem PySem.Spec L2
/-! ### dicts whose keys are tuples (of ints, texts, None, tuples of these) -/
section
variable {G : Gx} {X : Cx} {pins : List (Addr × Obj)} {σ : L2.St} {s : Shared} {H : Hp} {P : Addr → Prop}
mutual
theorem rep_nested (hK : G.K = X.K) (I : Inv X pins σ H s) : ∀ (d : D) (v : V) (u : Value) (k : NestedKey), Rep G H P d v → RelV v u → keyN d = some k → NestedIs s.heap k u
  | .non, v, u, k, h, r, e => by
    simp only [Rep] at h; subst h
    simp only [keyN, Option.some.injEq] at e; subst e
    cases r; exact .none
  | .int i, v, u, k, h, r, e => by
    simp only [Rep] at h; subst h
    simp only [keyN, Option.some.injEq] at e; subst e
    obtain ⟨t, rfl⟩ := (show ∃ t, u = Value.int i t from r)
    exact .int _ _
  | .str x, v, u, k, h, r, e => by
    simp only [Rep] at h; subst h
    simp only [keyN, Option.some.injEq] at e; subst e
    obtain ⟨t, rfl⟩ := (show ∃ t, u = Value.str x t from r)
    exact .text _ _
  | .tup xs, v, u, k, h, r, e => by
    simp only [Rep] at h
    obtain ⟨a, vs, rfl, h1, h2⟩ := h
    obtain rfl : u = Value.ref a := r
    simp only [keyN, Option.map_eq_some_iff] at e
    obtain ⟨ks, e, rfl⟩ := e
    obtain ⟨_, its, rv, o, g1, g2, n, g3⟩ := (show ObjOk X.prog X.w H s.heap a (.tup vs) from I.hok a _ h1)
    exact .tup g1 g2 g3 (by simpa using reps_nested hK I xs vs its ks h2 rv e)
  | .kt, v, u, k, h, r, e => by
    simp only [Rep] at h
    obtain ⟨a, rfl, h1⟩ := h
    obtain rfl : u = Value.ref a := r
    simp only [keyN, Option.some.injEq] at e; subst e
    rcases h1 with (h1 | ⟨o, h1⟩) | ⟨o, its, n, g1, g2, g3, _, rv⟩
    · cases h1
    · cases h1
    · have e0 : its.toList = [] := by
        generalize its.toList = l at rv
        cases rv; rfl
      exact .tup (I.kIn _ _ (hK ▸ g1)) g2 g3 (by rw [e0]; exact .nil)
  | .bl b, v, u, k, h, r, e => by simp [keyN] at e
  | .lst xs, v, u, k, h, r, e => by simp [keyN] at e
  | .dK ks xs, v, u, k, h, r, e => by simp [keyN] at e
  | .dT ks xs, v, u, k, h, r, e => by simp [keyN] at e
  | .ins c xs, v, u, k, h, r, e => by simp [keyN] at e
  | .scr ns, v, u, k, h, r, e => by simp [keyN] at e
theorem reps_nested (hK : G.K = X.K) (I : Inv X pins σ H s) : ∀ (ds : List D) (vs : List V) (us : List Value) (ks : List NestedKey), Reps G H P ds vs → Vals vs us → keysN ds = some ks → NestedAll s.heap ks us
  | [], vs, us, ks, h, r, e => by
    simp only [Reps] at h; subst h
    simp only [keysN, Option.some.injEq] at e; subst e
    cases r; exact .nil
  | d :: ds, vs, us, ks, h, r, e => by
    simp only [Reps] at h
    obtain ⟨v, vr, rfl, h1, h2⟩ := h
    simp only [keysN] at e
    split at e
    · rename_i k kr e1 e2
      cases e
      cases r with
      | cons r1 r2 => exact .cons (rep_nested hK I d v _ k h1 r1 e1) (reps_nested hK I ds vr _ kr h2 r2 e2)
    · cases e
end
end
/-! the rules over the heap -/
/-- y is the key k -/
def KeyV (K : PySem.W.Frag) (H : Hp) (k : NestedKey) (y : V) : Prop := ∃ (G : Gx) (P : Addr → Prop) (d : D), G.K = K ∧ Rep G H P d y ∧ keyN d = some k
/-- at a stands a dict with the entries es; o: what the heap says of it -/
structure XD (K : PySem.W.Frag) (H : Hp) (a : Addr) (es : Ents) : Prop where
  sys : (a == sysModules) = false
  keys : ∀ e ∈ es, KeyV K H e.1 (.ref e.2.1) ∧ e.1.depth ≤ 8
  size : es.length ≤ sizeLine
section
variable {X : Cx} {pins : List (Addr × Obj)} {σ : L2.St} {s : Shared} {H : Hp} {a d : Addr} {es : Ents} {k : NestedKey} {y : V} {u : Value}
theorem KeyV.is (h : KeyV X.K H k y) (I : Inv X pins σ H s) (r : RelV y u) : NestedIs s.heap k u := by
  obtain ⟨G, P, d, hK, h, e⟩ := h
  exact rep_nested hK I d y u k h r e
theorem XD.at (x : XD X.K H a es) (I : Inv X pins σ H s) (hd : dictAt X.w a es s.heap) : s.heap.DictOfH (nestedKind X.prog X.w) a es := by
  obtain ⟨o, e, ep, g1, g2, g3, g4, g5⟩ := hd
  exact ⟨o, e, ep, g1, g2, g3, g4, fun q hq => ⟨(x.keys q hq).1.is I rfl, (x.keys q hq).2⟩, g5⟩
/-- {} -/
def tDX0 (w : World) : TE := fun _ H Q => ∀ p, H p = none → (p == sysModules) = false → Q (.ref p) (upd H p (.ext (dictAt w p [])))
/-- d[y] = v -/
def rSetX (K : PySem.W.Frag) (w : World) : V → V → V → Hp → (Hp → Prop) → Prop := fun o i v H Q => ∃ a es k b, o = .ref a ∧ i = .ref b ∧ H a = some (.ext (dictAt w a es)) ∧ XD K H a es ∧ KeyV K H k i ∧ k.depth ≤ 8 ∧
  ∀ u, RelV v u → Q (upd H a (.ext (dictAt w a (storedH es k b u))))
/-- y in d -/
def tXIn (K : PySem.W.Frag) (w : World) (ty td : TE) : TE := fun σ H Q => ty σ H fun y H1 => td σ H1 fun x H2 => ∃ a es k b, x = .ref a ∧ y = .ref b ∧ H2 a = some (.ext (dictAt w a es)) ∧ XD K H2 a es ∧ KeyV K H2 k y ∧ k.depth ≤ 8 ∧ Q (.bl (atKey es k).isSome) H2
def tXNotIn (K : PySem.W.Frag) (w : World) (ty td : TE) : TE := fun σ H Q => ty σ H fun y H1 => td σ H1 fun x H2 => ∃ a es k b, x = .ref a ∧ y = .ref b ∧ H2 a = some (.ext (dictAt w a es)) ∧ XD K H2 a es ∧ KeyV K H2 k y ∧ k.depth ≤ 8 ∧ Q (.bl (!(atKey es k).isSome)) H2
variable {i o : Expr} {ty td : TE}
end
/-! walks over the keys; list(d) -/
section
variable {P : Program} {w : World} {K : PySem.W.Frag} {tg : Expr} {d : Addr} {o : Obj} {e : Array DictEntry} {ep : Nat} {es : Ents}
def Itx (w : World) (d : Addr) (o : Obj) (es : Ents) : It :=
  ⟨fun i H => H d = some (.frz o (.ext (dictAt w d es))) ∧ i < es.length, fun i H x H' => H' = H ∧ ∃ q, es[i]? = some q ∧ x = .ref q.2.1, fun i H => H d = some (.frz o (.ext (dictAt w d es))) ∧ es.length ≤ i⟩
end
/-- for k in d, d locked -/
def iKeysX (w : World) (td : TE) : TI := fun σ H R => td σ H fun x H1 => ∃ d o es, x = .ref d ∧ (d == sysModules) = false ∧ H1 d = some (.frz o (.ext (dictAt w d es))) ∧ R (Itx w d o es) H1
/-- list(d) -/
def rListX (w : World) : List V → Hp → VK → Prop := fun xs H Q => ∃ d es, xs = [V.ref d] ∧ (d == sysModules) = false ∧ es.length ≤ sizeLine ∧ H d = some (.ext (dictAt w d es)) ∧ ∀ p, H p = none → Q (.ref p) (upd H p (.lst (es.map fun e => V.ref e.2.1)))
end PV

namespace PV
open PySem PySem.Spec L2
/-! ### sorted of data -/
mutual
def encD : D → PyData
  | .non => .none
  | .bl b => .bool b
  | .int i => .int i
  | .str x => .str x
  | .tup xs => .tuple (encDs xs)
  | .lst xs => .list (encDs xs)
  | .kt => .tuple []
  | _ => .dict []
def encDs : List D → List PyData
  | [] => []
  | d :: ds => encD d :: encDs ds
end
section
variable {G : Gx} {X : Cx} {pins : List (Addr × Obj)} {σ : L2.St} {s : Shared} {H : Hp} {P : Addr → Prop}
end
/-- they can be sorted -/
def tupB : PyData → Bool
  | .tuple (_ :: _) => true
  | _ => false
def plainB : PyData → Bool
  | .none => false
  | .tuple _ => false
  | _ => true
def srtOk (ds : List D) : Bool := (ds.all fun d => ds.all fun e => PySem.W.alike (encD d) (encD e)) && (ds.all (fun d => tupB (encD d)) || ds.all fun d => plainB (encD d)) && ds.all fun d => decide ((encD d).depth ≤ 16)
def srtD (ds : List D) : List D := ds.mergeSort (PySem.W.dataLe false encD)
section
open PyProof.Rows PySem.W PySem.Calls
variable {prog : Program} {w : World} {A : Around} {E : Value → Shared → Prop} {s : Shared} {β : Type} {vs : List Value} {bs : List β} {enc : β → PyData} {R : Value → β → Prop}
end
section
open PyProof.Rows PySem.W PySem.Calls
variable {prog : Program} {w : World} {A : Around} {E : Value → Shared → Prop} {s : Shared} {vs : List Value}
end
section
open PySem.W
variable {G : Gx} {H : Hp} {P : Addr → Prop}
end
/-- sorted of a list, a tuple, a dict -/
def SrcV (K : PySem.W.Frag) (w : World) (H : Hp) (v : V) (xs : List V) : Prop := (∃ a, v = .ref a ∧ (SqL K H a xs ∨ SqT K H a xs)) ∨ ∃ d es, v = .ref d ∧ (d == sysModules) = false ∧ es.length ≤ sizeLine ∧ H d = some (.ext (dictAt w d es)) ∧ xs = es.map fun e => V.ref e.2.1
def rSortD (K : PySem.W.Frag) (w : World) : List V → Hp → VK → Prop := fun vs H Q => ∃ (v : V) (G : Gx) (P : Addr → Prop) (ds : List D) (xs : List V), vs = [v] ∧ G.K = K ∧ Reps G H P ds xs ∧ SrcV K w H v xs ∧ (xs.length < 2 ∨ srtOk ds = true) ∧
  ∀ p ys ds', H p = none → (if ds.length < 2 then ds' = ds else ds' = srtD ds) → (∀ (H' : Hp) (P' : Addr → Prop), Reps G H' P' ds xs → Reps G H' P' ds' ys) → Q (.ref p) (upd H p (.lst ys))
section
open PyProof.Rows PySem.W PySem.Calls
variable {X : Cx} {pins : List (Addr × Obj)} {σ : L2.St} {s : Shared} {H : Hp} {E : Value → Shared → Prop} {A : Around}
end
end PV

namespace PV
open PySem PySem.Spec L2
/-! dicts by entries: the layer's own expressions and statements -/
section
variable {G : Gx} {H : Hp} {P P' fz pr : Addr → Prop}
def isTupD : D → Bool
  | .tup _ => true
  | .kt => true
  | _ => false
/-! storing -/
def hasK (ks : List D) (kd : D) : Bool := ks.any fun q => decide (keyN q = keyN kd)
def putKs (ks : List D) (kd : D) : List D := if hasK ks kd = true then ks else ks ++ [kd]
def putXs (ks xs : List D) (kd d : D) : List D := if hasK ks kd = true then (ks.zip xs).map (fun p => if keyN p.1 = keyN kd then d else p.2) else xs ++ [d]
end
section
variable {G : Gx} {H : Hp} {P P' fz pr : Addr → Prop}
end
section
variable {G : Gx} {W : WX} {pr : Addr → Prop} {io : List (Nat × V)} {σ : L2.St} {s s1 : Sx} {ios : List Nat} {Q : VK} {X : Cx} {a b c e : Expr} {pos p p2 : Pos} {x : Str} {ga gb gc : Ev} {k : Nat}
/-! {} -/
def eDX0 : Ev := fun ρ => .ok (.v .O (.dT [] [])) ρ
/-! list(d), sorted(xs) -/
def opListX (t : Tm) : Option Tm := match t with
  | .v _ (.dT ks _) => some (.v .O (.lst ks))
  | _ => none
def eListX : Ev → Ev := eOp1 opListX
def srtT (ds : List D) : Option Tm := if ds.length < 2 then some (.v .O (.lst ds)) else if srtOk ds = true then some (.v .O (.lst (srtD ds))) else none
def opSortD (t : Tm) : Option Tm := match t with
  | .v k (.lst xs) => (elk k xs).bind srtT
  | .v k (.tup xs) => (elk k xs).bind srtT
  | .v _ (.dT ks _) => srtT ks
  | .v _ .kt => some (.v .O (.lst []))
  | _ => none
def eSortD : Ev → Ev := eOp1 opSortD
end
end PV

namespace PV
open PySem PySem.Spec L2
/-! d[k] = v; k in d; for k in d -/
section
variable {G : Gx} {W : WX} {pr : Addr → Prop} {io : List (Nat × V)} {σ : L2.St} {s s1 : Sx} {ios : List Nat} {Q : VK} {X : Cx} {a b c e : Expr} {pos p p2 : Pos} {x : Str} {ga gb gc : Ev} {k : Nat}
def isDX (ρ : Ss) (i : Nat) : Bool := match ρ[i]? with
  | some (some (.v .O (.dT _ _))) => true
  | _ => false
/-- what is a key -/
def keyOk (kd : D) : Bool := match keyN kd with
  | some k => isTupD kd && decide (k.depth ≤ 8)
  | none => false
def tgSubX (i : Nat) (gi : Ev) : Tg := fun t ρ => if isDX ρ i = true then match gi ρ with
  | .ok u ρ2 => match ρ2[i]? with
    | some (some (.v .O (.dT ks xs))) => match (derT ρ2 u).bind frz with
      | some kd => match frz t with
        | some d => if keyOk kd = true ∧ ks.length < sizeLine then some (ρ2.set i (some (.v .O (.dT (putKs ks kd) (putXs ks xs kd d))))) else none
        | none => none
      | none => none
    | _ => none
  | _ => none
  else none
end
end PV

namespace PV
open PySem PySem.Spec L2
/-! k in d -/
def rInX (K : PySem.W.Frag) (w : World) (neg : Bool) : R2 := fun y x H Q => ∃ a es k b, x = .ref a ∧ y = .ref b ∧ H a = some (.ext (dictAt w a es)) ∧ XD K H a es ∧ KeyV K H k y ∧ k.depth ≤ 8 ∧ Q (.bl (if neg = true then !(atKey es k).isSome else (atKey es k).isSome)) H
section
variable {X : Cx}
end
section
variable {G : Gx} {W : WX} {pr : Addr → Prop} {io : List (Nat × V)} {σ : L2.St} {s s1 : Sx} {ios : List Nat} {Q : VK} {X : Cx} {a b c e : Expr} {pos p p2 : Pos} {x : Str} {ga gb gc : Ev} {k : Nat}
def opInX (neg : Bool) (t u : Tm) : Option Tm := match u with
  | .v _ (.dT ks _) => match frz t with
    | some kd => if keyOk kd = true then some (.v .F (.bl (if neg = true then !hasK ks kd else hasK ks kd))) else none
    | none => none
  | _ => none
def eInX : Ev → Ev → Ev := eOp2 (opInX false)
def eNotInX : Ev → Ev → Ev := eOp2 (opInX true)
/-! for k in d: the name is empty, the dict locked, while the loop goes -/
def sForK (i : Nat) (tgt : Tg) (body : Sm) : Sm := fun ρ => match ρ[i]? with
  | some (some (.v .O (.dT ks xs))) => match forL tgt body (ks.map (Tm.v .F)) (ρ.set i none) with
    | .nx ρ' => match ρ'[i]? with
      | some none => .nx (ρ'.set i (some (.v .O (.dT ks xs))))
      | _ => .no
    | _ => .no
  | _ => .no
end
end PV

namespace PV
open PySem PySem.Spec L2
/-! {k: v} -/
def tDX1 (K : PySem.W.Frag) (w : World) (tk tv : TE) : TE := fun σ H Q => ∀ p, H p = none → (p == sysModules) = false → tPairs [(tk, tv)] σ (upd H p (.ext (dictAt w p []))) fun ps H2 => H2 p = some (.ext (dictAt w p [])) ∧ ∃ y v k b, ps = [(y, v)] ∧ y = .ref b ∧ KeyV K H2 k y ∧ k.depth ≤ 8 ∧
  ∀ u, RelV v u → Q (.ref p) (upd H2 p (.ext (dictAt w p [(k, b, u)])))
def eDX1 (gk gv : Ev) : Ev := fun ρ => (gk ρ).bind fun t ρ1 => (gv ρ1).bind fun u ρ2 => match (derT ρ2 t).bind frz, frz u with
  | some kd, some d => if keyOk kd = true ∧ flat d = true then .ok (.v .O (.dT [kd] [d])) ρ2 else .no
  | _, _ => .no
section
variable {G : Gx} {W : WX} {pr : Addr → Prop} {io : List (Nat × V)} {σ : L2.St} {s s1 : Sx} {ios : List Nat} {Q : VK} {X : Cx} {a b c e : Expr} {pos p p2 : Pos} {x : Str} {ga gb gc : Ev} {k : Nat}
end
end PV

namespace PV
open PySem PySem.Spec L2
/-! [.. for k in d ..]: the name is empty, the dict locked, while the block goes -/
def itKs (ks : List D) : Iv := fun ρ => .ok (ks.map (Tm.v .F)) ρ
def eCompK (i : Nat) (vs : List Nat) (tgt : Tg) (test elt : Ev) : Ev := fun ρ => match ρ[i]? with
  | some (some (.v .O (.dT ks xs))) => match eComp (itKs ks) vs tgt test elt (ρ.set i none) with
    | .ok (.v .O (.lst ds)) ρ' => match ρ'[i]? with
      | some none => .ok (.v .O (.lst ds)) (ρ'.set i (some (.v .O (.dT ks xs))))
      | _ => .no
    | _ => .no
  | _ => .no
section
variable {G : Gx} {W : WX} {pr : Addr → Prop} {io : List (Nat × V)} {σ : L2.St} {s s1 : Sx} {ios : List Nat} {Q : VK} {X : Cx} {a b c e : Expr} {pos p p2 : Pos} {x : Str} {ga gb gc : Ev} {k : Nat}
variable {elt : Expr} {ifs : List Expr} {scope : Scope} {own : List (Str × Nat)} {spos py : Pos} {tgt : Tg} {test gel : Ev} {tv : List Nat} {tg : Expr}
end
end PV

namespace PV
open PySem PySem.Spec L2
/-! xs.remove(x) over data -/
section
variable {prog : Program} {w : World} {A : Around} {s : Shared} {R : Result → Shared → Prop}
end
def rRemP (K : PySem.W.Frag) : V → List V → Hp → VK → Prop := fun x xs H Q => ∃ (l : Addr) (vs : List V) (y : V) (d : PyData) (ds : List PyData) (j : Nat), x = .ref l ∧ xs = [y] ∧ H l = some (.lst vs) ∧ Dp K H y d ∧ DpAll K H vs ds ∧ SeqAt.shaped d = true ∧ (∀ q ∈ ds, SeqAt.shaped q = true) ∧
  (∃ q, ds[j]? = some q ∧ PyData.eqv q d = true) ∧ (∀ m q, m < j → ds[m]? = some q → PyData.eqv q d = false) ∧ Q .non (upd H l (.lst (vs.eraseIdx j)))
end PV

namespace PV
open PySem PySem.Spec L2
section
variable {G : Gx} {W : WX} {pr : Addr → Prop} {io : List (Nat × V)} {σ : L2.St} {s s1 : Sx} {ios : List Nat} {Q : VK} {X : Cx} {a b c e o : Expr} {es : List Expr} {pos p pos2 apos : Pos} {x m : Str} {ga gb gc gi g0 : Ev} {gs gk : Ss → OuL}
def opRemP : List D → List D → Option (D × List D) := fun xs ds => match ds with
  | [k] => match toPy k, toPys xs with
    | some d, some qs => if SeqAt.shaped d = true ∧ qs.all SeqAt.shaped = true then (qs.findIdx? fun q => PyData.eqv q d).map fun j => (.non, xs.eraseIdx j) else none
    | _, _ => none
  | _ => none
/-! a, b = xs: a list -/
def gTupL (n : Nat) (t : TGs) : TG := fun v σ H Q => ∃ a xs, v = V.ref a ∧ H a = some (.lst xs) ∧ xs.length = n ∧ t xs σ H Q
def tgTupL (gs : Tgs) : Tg := fun t ρ => match t with
  | .v .O (.lst xs) => gs (xs.map (Tm.v .F)) ρ
  | _ => none
end
end PV

namespace PV
open PySem PySem.Spec L2
/-! raise C(e); try: .. except C as n: x = n.f -/
def sRaise (c : Nat) (g : Ev) : Sm := fun ρ => (g ρ).toF fun t ρ1 => match t with
  | .v .F d => .ex ⟨c, [d]⟩ ρ1
  | _ => .no
section
variable {G : Gx} {W : WX} {pr : Addr → Prop} {io : List (Nat × V)} {σ : L2.St} {s s1 : Sx} {ios : List Nat} {X : Cx} {D : Ends}
/-- the end of raise -/
theorem raise_end {c : Nat} {f : Str} {ga : Ev} {C : Addr} (hC : G.ca c = C) (hn : G.cn c = [f]) {H : Hp} (q : tSv G W ios (sRaise c ga) D σ H) :
    tEv G W ios ga σ H fun v H1 => ∃ v', [v] = [v'] ∧ ∀ d, H1 d = none → W (.ref C) (some d) σ (upd H1 d (.xd [(f, v')])) := by
  obtain ⟨pr, io, s, rfl, hi, r, q⟩ := of_tSv q
  refine tEv_of hi r (FlP.toF q fun t v s1 ot r1 x1 p1 f1 q1 => ?_)
  cases t with
  | v k d =>
    cases k with
    | F =>
      dsimp only at q1
      refine ⟨v, rfl, fun dx hdx => ?_⟩
      have hx : TmR G s1.H s1.fz pr (.v .F d) v ot := p1.rel
      simp only [TmR] at hx
      have xn : Ext s1 (s1.new dx (.xd [(f, v)])) := Ext.new hdx _
      have r2 : SR G pr io σ { s1.new dx (.xd [(f, v)]) with fz := fun a => s1.fz a ∨ a = dx } := by
        have r := r1.new hdx (.xd [(f, v)])
        have fr := r1.fresh hdx
        refine ⟨Sl.keep (fun _ h => .inl h) (fun _ h => .inr h) (Tk.refl _) (fun _ _ _ h => h) r.sl, r.nd, fun a ha => ⟨fun z => z.elim (r.sep a ha).1 fun z => fr.2.2 (by rw [← z]; exact ha), (r.sep a ha).2⟩, fun a h => ?_, r.iov⟩
        rcases h with (h | h) | h
        · exact r.dom a (.inl h)
        · rw [h]; show upd _ _ _ _ ≠ none; rw [upd_same]; simp
        · exact r.dom a (.inr h)
      have x2 : Ext s1 { s1.new dx (.xd [(f, v)]) with fz := fun a => s1.fz a ∨ a = dx } := ⟨xn.keep, xn.dom, xn.tk, fun _ h => .inl h, fun a h => h.elim .inl fun z => .inr (.inr (by rw [z]; exact hdx)), xn.oso⟩
      refine q1 (.ref C) (some dx) σ { s1.new dx (.xd [(f, v)]) with fz := fun a => s1.fz a ∨ a = dx } rfl r2 (x1.trans x2) ⟨by rw [hC], dx, [v], rfl, .inr rfl, ?_, by rw [hn]; rfl, ?_⟩
      · show upd _ _ _ _ = _
        rw [upd_same, hn]; rfl
      · simp only [Reps]
        exact ⟨v, [], rfl, Rep.keep x2.fz (fun a o p e => x2.keep a o e fun z => (r1.sep a z).1 p) x2.tk _ _ hx.2, rfl⟩
    | B => exact q1.elim
    | O => exact q1.elim
  | tp ts => exact q1.elim
  | loc i => exact q1.elim
  | ls ts => exact q1.elim
  | ob c ts => exact q1.elim
end
end PV

namespace L2N
open L2 PySem PySem.Spec PyProof.Rows
/-- what the clauses (each with its name's slot) wish of an exception of the body -/
def wManyAs (K : PySem.W.Frag) (Wout : WX) (D : Ends) : List (Value × Nat × (Addr → Value → Option Addr → TS)) → WX
  | [] => Wout
  | (c, i, ts) :: r => fun cls d σ H => ∃ b, PySem.W.exmOne K cls c = some b ∧
      (b = true → ∀ a, H a = none → ts a cls d { nx := fun σ' H' => D.nx (σ'.set i none) H', rt := D.rt, bk := fun σ' H' => D.bk (σ'.set i none) H', ct := fun σ' H' => D.ct (σ'.set i none) H' } (σ.set i (some (.ref a))) H) ∧ (b = false → wManyAs K Wout D r cls d σ H)
inductive HdsAs (X : Cx) : List ExceptHandler → List (Value × Nat × (Addr → Value → Option Addr → TS)) → Prop
  | nil : HdsAs X [] []
  | cons {x n : Str} {c : Value} {i : Nat} {ts : Addr → Value → Option Addr → TS} {b₀ : Stmt} {suite : List Stmt} {np pos' : Pos} {hds : List ExceptHandler} {l : List (Value × Nat × (Addr → Value → Option Addr → TS))} (hc : Names X x c) (hi : X.N[i]? = some n) (hln : X.env.kindOf n = some .local)
      (hsu : ∀ (a : Addr) (oe : Obj) (cls : Value) (d : Option Addr) (pn : List (Addr × Obj)), Zn cls d oe → (∃ vs, oe.data = .fields vs) → PSs (X.suite a ((a, oe) :: pn)) (b₀ :: suite) (ts a cls d)) (r : HdsAs X hds l) :
      HdsAs X (.ExceptHandler (some (.Name x np)) (some n) (b₀ :: suite) pos' :: hds) ((c, i, ts) :: l)
section
variable {X : Cx} {body : List Stmt} {h₀ : ExceptHandler} {hds : List ExceptHandler} {l : List (Value × Nat × (Addr → Value → Option Addr → TS))} {pos : Pos} {tb : WX → TS} {Wout : WX}
end
/-- what «except c» says of an error of the class cls -/
theorem exm_of {K : PySem.W.Frag} {S C : Addr} {b : Bool} (h1 : PySem.W.subIn K (.ref C) (.type "BaseException") = some true) (h2 : PySem.W.isClsIn K C = true) (h3 : PySem.W.typeIn K (.ref C) = some (.type "type")) (h4 : PySem.W.subIn K (.ref S) (.ref C) = some b) :
    PySem.W.exmOne K (.ref S) (.ref C) = some b := by
  have e1 : (PySem.W.subIn K (.ref C) (.type "BaseException") == some true) = true := by rw [h1] <;> rfl
  have e2 : ((PySem.W.clsIn K C).isSome && PySem.W.typeIn K (.ref C) == some (.type "type")) = true := by
    have h2' : (PySem.W.clsIn K C).isSome = true := h2
    rw [h2', h3] <;> rfl
  show (if (PySem.W.subIn K (.ref C) (.type "BaseException") == some true) = true then (if ((PySem.W.clsIn K C).isSome && PySem.W.typeIn K (.ref C) == some (.type "type")) = true then PySem.W.subIn K (.ref S) (.ref C) else none) else none) = some b
  rw [if_pos e1, if_pos e2]
  exact h4
end L2N

namespace PV
open PySem PySem.Spec L2
/-! try with clauses «except C as n: suite», each suite one assignment; raise C() -/
structure Hd where
  c : Nat
  j : Nat
  k : List D → Ss → Fl
def sRaise0 (c : Nat) : Sm := fun ρ => .ex ⟨c, []⟩ ρ
def sTryH (kn : List Nat) (hs : List Hd) (g : Sm) : Sm := fun ρ => match g ρ with
  | .ex e ρ1 => if e.c ∈ kn then match hs.find? (fun h => e.c == h.c) with
      | some h => if h.j < ρ1.length then h.k e.ds (ρ1.set h.j none) else .no
      | none => .ex e ρ1
    else .no
  | o => o
/-- x = d -/
def hkC (x : Nat) (d : D) : List D → Ss → Fl := fun _ ρ => if x < ρ.length then .nx (ρ.set x (some (.v .F d))) else .no
/-- x = n.f -/
def hkF (x : Nat) : List D → Ss → Fl := fun ds ρ => match ds with
  | [d] => if x < ρ.length then .nx (ρ.set x (some (.v .F d))) else .no
  | _ => .no
/-- x, y = d, n.f -/
def hkP (x y : Nat) (d0 : D) : List D → Ss → Fl := fun ds ρ => match ds with
  | [d] => if x < ρ.length ∧ y < ρ.length then .nx ((ρ.set x (some (.v .F d0))).set y (some (.v .F d))) else .no
  | _ => .no
section
variable {G : Gx} {W : WX} {ios : List Nat} {X : Cx}
/-- the suite ts does what k says -/
def HdR (G : Gx) (W : WX) (ios : List Nat) (h : Hd) (ts : Addr → Value → Option Addr → TS) : Prop :=
  ∀ (pr : Addr → Prop) (io : List (Nat × V)) (s : Sx) (σ : L2.St) (a : Addr) (cls : Value) (d : Option Addr) (ds : List D) (D : Ends), io.map Prod.fst = ios → h.j < σ.length → SR G pr io (σ.set h.j none) s → s.ρ[h.j]? = some none → ErR G s.H s.fz ⟨h.c, ds⟩ cls d → FlP G W pr io s (h.k ds s.ρ) D →
    ts a cls d { nx := fun σ' H' => D.nx (σ'.set h.j none) H', rt := D.rt, bk := fun σ' H' => D.bk (σ'.set h.j none) H', ct := fun σ' H' => D.ct (σ'.set h.j none) H' } (σ.set h.j (some (.ref a))) s.H
theorem SR.empty {pr : Addr → Prop} {io : List (Nat × V)} {σ : L2.St} {s s1 : Sx} (j : Nat) (hj : j ∉ io.map Prod.fst) (r1 : SR G pr io σ s1) (x1 : Ext s s1) : ∃ os', SR G pr io (σ.set j none) { s1 with ρ := s1.ρ.set j none, os := os' } ∧ Ext s { s1 with ρ := s1.ρ.set j none, os := os' } := by
  obtain ⟨os', k1, k2, k3⟩ := Sl.forget j r1.sl
  exact ⟨os', ⟨k1, k3 r1.nd, fun a ha => r1.sep a (k2 a ha), r1.dom, fun p hp => by
    have hne : p.1 ≠ j := fun z => hj (by rw [← z]; exact List.mem_map_of_mem hp)
    rw [List.getElem?_set_ne (Ne.symm hne)]
    exact r1.iov p hp⟩, x1.less k2⟩
theorem set_none_ref {σ : L2.St} {j x : Nat} {a : Addr} {v : V} (h : x ≠ j) : (((σ.set j (some (.ref a))).set x (some v))).set j none = (σ.set j none).set x (some v) := by
  rw [List.set_comm _ _ h, List.set_set]
end
/-- clauses and what they do -/
inductive HdsR (G : Gx) (W : WX) (ios : List Nat) (ok : Nat → Nat → Bool → Prop) : List Hd → List (Value × Nat × (Addr → Value → Option Addr → TS)) → Prop
  | nil : HdsR G W ios ok [] []
  | cons {h : Hd} {ts : Addr → Value → Option Addr → TS} {hs : List Hd} {l : List (Value × Nat × (Addr → Value → Option Addr → TS))} (hj : h.j ∉ ios) (r : HdR G W ios h ts) (rs : HdsR G W ios ok hs l) : HdsR G W ios ok (h :: hs) ((.ref (G.ca h.c), h.j, ts) :: l)
section
variable {G : Gx} {Wout : WX} {ios : List Nat} {X : Cx} {D : Ends} {σ : L2.St}
end
/-- the clauses hds do what hs say -/
def HdsV (X : Cx) (G : Gx) (W : WX) (ios : List Nat) (hs : List Hd) (hds : List ExceptHandler) : Prop := ∃ l, HdsR G W ios (fun _ _ _ => True) hs l ∧ L2N.HdsAs X hds l
section
variable {G : Gx} {W : WX} {ios : List Nat} {X : Cx}
theorem Rm.tr {k : Nat} {W' : WX} {pn : List (Addr × Obj)} {xe : Value → Shared → Prop} (m : Rm X W k) (tk : L2N.Takes (X.tr pn xe) W') (po : PassesOwn (model X.prog X.w) X.A X.env xe) : Rm (X.tr pn xe) W' k := ⟨m.rm, tk, po, m.stk, m.frm⟩
end
end PV

namespace HotX
open PySem PySem.Spec PyProof.Rows
section
variable {prog : Program} {w : World} {A : Around} {E : Value → Shared → Prop} {s : Shared}
end
end HotX
namespace L2N
open L2 PySem PySem.Spec PyProof.Rows
end L2N

namespace L2
open PySem PySem.Spec PyProof.Rows
/-- min(a, b, c) -/
def min3 (i j k : Int) : Int := if j < i then (if k < j then k else j) else (if k < i then k else i)
section
variable {X : Cx}
/-- xs[::e] with e 1 or -1 -/
def rStep (K : PySem.W.Frag) : V → V → Hp → VK → Prop := fun x y H Q => ∃ a xs i, x = .ref a ∧ y = .int i ∧ SqL K H a xs ∧
  ((i = 1 ∧ ∀ p, H p = none → Q (.ref p) (upd H p (.lst xs))) ∨ (i = -1 ∧ ∀ p, H p = none → Q (.ref p) (upd H p (.lst xs.reverse))))
end
end L2
namespace PV
open PySem PySem.Spec L2
def eMin3 (gs : Ss → OuL) : Ev := fun ρ => match gs ρ with
  | .ok ts ρ1 => match ts with
    | [.v .F (.int i), .v .F (.int j), .v .F (.int k)] => .ok (.v .F (.int (min3 i j k))) ρ1
    | _ => .no
  | .ex e ρ1 => .ex e ρ1
  | .no => .no
def opStep (t u : Tm) : Option Tm := match t, u with
  | .v k (.lst xs), .v _ (.int i) => if i = 1 then (elk k xs).map fun ys => .v .O (.lst ys) else if i = -1 then (elk k xs).map fun ys => .v .O (.lst ys.reverse) else none
  | _, _ => none
def eStep : Ev → Ev → Ev := eOp2 opStep
/-- a dict of texts by texts -/
def eDctT (ps : List (Str × Str)) : Ev := fun ρ => .ok (.v .O (.dK (ps.map fun p => Sum.inr p.1) (ps.map fun p => .str p.2))) ρ
def lookD : List Key → List D → Key → Option D
  | k :: ks, x :: xs, w => if k = w then some x else lookD ks xs w
  | _, _, _ => none
def opIdxK (t u : Tm) : Option Tm := match t, u with
  | .v _ (.dK ks xs), .v _ (.str w) => match lookD ks xs (.inr w) with
    | some (.str z) => some (.v .F (.str z))
    | _ => none
  | _, _ => none
def eIdxK : Ev → Ev → Ev := eOp2 opIdxK
section
variable {G : Gx} {W : WX} {pr : Addr → Prop} {io : List (Nat × V)} {σ : L2.St} {s s1 : Sx} {ios : List Nat} {Q : VK} {X : Cx} {a b c e : Expr} {pos p p2 p3 : Pos} {ga gb gc : Ev} {k : Nat}
theorem OuP.dK {ks : List Key} {ds : List D} {vs : List V} (h : OuP G W pr io σ s (.ok (.v .O (.dK ks ds)) s.ρ) Q) (r : SR G pr io σ s) (hl : ks.length = vs.length) (hd : Reps G s.H s.fz ds vs) {p : Addr} (hp : s.H p = none) : Q (.ref p) (upd s.H p (.dK (ks.zip vs))) := by
  have f := r.fresh hp
  refine h _ (s.new p (.dK (ks.zip vs))) [p] rfl (r.new hp _) (Ext.new hp _) ⟨?_, by simp, fun a ha => ?_⟩ fun a ha => ?_
  · show TmR _ _ _ _ _ _ _
    simp only [TmR, RepO]
    exact ⟨p, vs, rfl, rfl, upd_same, hl, Reps.keep (fun _ z => z) (fun a o _ e => by show upd _ _ _ _ = _; rw [upd_ne (ne_of_none e hp)]; exact e) (tk_new hp _) _ _ hd⟩
  · rw [List.mem_singleton] at ha; subst ha; exact f
  · rw [List.mem_singleton] at ha; subst ha; exact .inr hp
end
end PV

namespace SrtR
open PySem PyProof.Rows Srt SrtO
section
variable {prog : Program} {w : World} {A : Around} {E : Value → Shared → Prop} {s : Shared}
end
end SrtR
namespace L2
open PySem PySem.Spec PyProof.Rows
def rSortedKwS (K : PySem.W.Frag) (b : Bool) (zs0 : List V) : List V → List V → Hp → VK → Prop := fun vs zs H Q => ∃ (a : Addr) (ns : List Int), vs = [V.ref a] ∧ zs = zs0 ∧ (SqL K H a (ns.map V.int) ∨ SqT K H a (ns.map V.int)) ∧
  ∀ (ns' : List Int) (p : Addr), ns'.Perm ns → OrdB b ns' → H p = none → Q (.ref p) (upd H p (.lst (ns'.map V.int)))
end L2
namespace PV
open PySem PySem.Spec L2
/-- the falling list, of a list or a tuple -/
def opSortR2 (t : Tm) : Option Tm := match toD t with
  | .lst xs => (intsD xs).map fun ns => .v .O (.lst ((isort ns).reverse.map .int))
  | .tup xs => (intsD xs).map fun ns => .v .O (.lst ((isort ns).reverse.map .int))
  | _ => none
def eSortR2 : Ev → Ev := eOp1 opSortR2
section
variable {G : Gx} {W : WX} {ios : List Nat} {X : Cx} {a : Expr} {pos p : Pos} {ga : Ev}
end
end PV

/-! repr of data of mixed kinds, dicts among them -/
namespace PV
open PySem PySem.Spec L2
mutual
/-- v reads as d; no dict in it is the one of all modules -/
inductive RdE (h₀ : Heap) : Value → PyData → Prop
  | non : RdE h₀ .none .none
  | bl (b : Bool) : RdE h₀ (.bool b) (.bool b)
  | int (i : Int) (t : Tok) : RdE h₀ (.int i t) (.int i)
  | str (x : Str) (t : Tok) : RdE h₀ (.str x t) (.str x)
  | lst {a : Addr} {ob : Obj} {its : Array Value} {n : Nat} {ds : List PyData} : h₀.get? a = some ob → ob.cls = .type "list" → ob.data = .seq its n → RdEs h₀ its.toList ds → RdE h₀ (.ref a) (.list ds)
  | tup {a : Addr} {ob : Obj} {its : Array Value} {n : Nat} {ds : List PyData} : h₀.get? a = some ob → ob.cls = .type "tuple" → ob.data = .seq its n → RdEs h₀ its.toList ds → RdE h₀ (.ref a) (.tuple ds)
  | dct {a : Addr} {ob : Obj} {en : Array DictEntry} {n : Nat} {kvs : List (PyData × PyData)} : h₀.get? a = some ob → ob.cls = .type "dict" → ob.data = .dict en n → (a == sysModules) = false →
      RdEs h₀ (en.toList.map (·.key)) (kvs.map (·.1)) → RdEs h₀ (en.toList.map (·.val)) (kvs.map (·.2)) → RdE h₀ (.ref a) (.dict kvs)
inductive RdEs (h₀ : Heap) : List Value → List PyData → Prop
  | nil : RdEs h₀ [] []
  | cons {v : Value} {vs : List Value} {d : PyData} {ds : List PyData} : RdE h₀ v d → RdEs h₀ vs ds → RdEs h₀ (v :: vs) (d :: ds)
end
section
variable {prog : Program} {w : World} {h₀ : Heap}
end
def keyPy : Key → PyData
  | .inl i => .int i
  | .inr x => .str x
mutual
/-- as data, dicts too -/
def toPyE : D → Option PyData
  | .non => some .none
  | .bl b => some (.bool b)
  | .int i => some (.int i)
  | .str x => some (.str x)
  | .tup xs => (toPyEs xs).map .tuple
  | .lst xs => (toPyEs xs).map .list
  | .dT ks xs => match toPyEs ks, toPyEs xs with
    | some ps, some qs => some (.dict (ps.zip qs))
    | _, _ => none
  | .dK ks xs => if ks.length = xs.length then (toPyEs xs).map fun qs => .dict ((ks.map keyPy).zip qs) else none
  | _ => none
def toPyEs : List D → Option (List PyData)
  | [] => some []
  | d :: ds => match toPyE d, toPyEs ds with
    | some p, some ps => some (p :: ps)
    | _, _ => none
end
section
variable {G : Gx} {X : Cx} {pins : List (Addr × Obj)} {σ : L2.St} {s : Shared} {H : Hp} {P : Addr → Prop}
end
/-- repr of any data -/
def reprD3 (d : D) : Option D := match d with
  | .non => some (.str "None")
  | .bl b => some (.str (boS b))
  | .str x => if (reprText x).length ≤ sizeLine then some (.str (reprText x)) else none
  | .int i => if i.natAbs.log2 < 1920 then some (.str (toString i)) else none
  | d => match toPyE d with
    | some p => if PyData.showable p = true ∧ PyData.depth p < 60 ∧ (PyData.shown p).length ≤ sizeLine then some (.str (PyData.shown p)) else none
    | none => none
section
variable {G : Gx} {X : Cx} {ios : List Nat} {W : WX} {a : Expr} {ga : Ev} {p pos : Pos}
def rReprE (X : Cx) : List V → Hp → VK → Prop := fun vs H Q => rRepr2 X vs H Q ∨ ∃ (G : Gx) (P : Addr → Prop) (a : Addr) (d : D) (q : PyData), vs = [V.ref a] ∧ Rep G H P d (.ref a) ∧ toPyE d = some q ∧ PyData.showable q = true ∧ PyData.depth q < 60 ∧ (PyData.shown q).length ≤ sizeLine ∧ Q (.str q.shown) H
/-- {} among data of mixed kinds -/
def eDK0 : Ev := fun ρ => .ok (.v .O (.dK [] [])) ρ
/-! is, is not of bools -/
def dB2 (f : Bool → Bool → Bool) : D → D → Option D
  | .bl a, .bl b => some (.bl (f a b))
  | _, _ => none
def eIsB : Ev → Ev → Ev := eOp2 (rd2 (dB2 fun a b => decide (a = b)))
def eNotB : Ev → Ev → Ev := eOp2 (rd2 (dB2 fun a b => !decide (a = b)))
/-- int(b) -/
def intB : D → Option D
  | .int i => some (.int i)
  | .bl b => some (.int (if b then 1 else 0))
  | _ => none
def eIntB : Ev → Ev := eOp1 (rd1 intB)
def eRepr3 : Ev → Ev := eOp1 (rd1 reprD3)
end
end PV

namespace PV
open PySem PySem.Spec L2
section
variable {G : Gx} {X : Cx} {ios : List Nat} {W : WX} {a : Expr} {ga : Ev} {p pos : Pos}
/-- lists of different lengths -/
def rEqLen : R2 := fun x y H Q => ∃ a b xs ys, x = .ref a ∧ y = .ref b ∧ H a = some (.lst xs) ∧ H b = some (.lst ys) ∧ xs.length ≠ ys.length ∧ Q (.bl false) H
def eqL (x y : D) : Option D := match x, y with
  | .lst xs, .lst ys => if xs.length ≠ ys.length then some (.bl false) else eqD false x y
  | _, _ => eqD false x y
def eEqL : Ev → Ev → Ev := eOp2 (rd2 eqL)
end
end PV

namespace PV
open PySem PySem.Spec L2
/-! ### sorted of whatever gives ints -/
section
open PyProof.Rows PySem.W PySem.Calls
variable {prog : Program} {w : World} {A : Around} {E : Value → Shared → Prop} {s : Shared}
end
/-! ### sorted(set(xs)), any number of members -/
def rSortedSet3 (w : World) (ns : List Int) : List V → Hp → VK → Prop := fun vs H Q => ∃ (a : Addr) (n : Nat), vs = [V.ref a] ∧ H a = some (SetO w a (fun k => decide (k ∈ ns)) n) ∧
  ∀ (p : Addr), H p = none → Q (.ref p) (upd H p (.lst ((usort ns).map V.int)))
def ssD3 (xs : List D) : Option Tm := match intsD xs with
  | some ns => if ns.length + 1 < scanBound then some (.v .O (.lst ((usort ns).map .int))) else none
  | none => none
def opSS3 (t : Tm) : Option Tm := match toD t with
  | .lst xs => ssD3 xs
  | .tup xs => ssD3 xs
  | .kt => some (.v .O (.lst []))
  | _ => none
def eSortSet3 : Ev → Ev := eOp1 opSS3
section
variable {G : Gx} {W : WX} {pr : Addr → Prop} {io : List (Nat × V)} {σ : L2.St} {s s1 : Sx} {ios : List Nat} {Q : VK} {X : Cx} {a b c e : Expr} {pos p p2 pos2 : Pos} {x : Str} {ga gb gc : Ev} {k : Nat}
end
end PV

namespace PV
open PySem PySem.Spec L2
/-! ### dicts whose keys are ints (or texts) -/
def keyK : D → Option Key
  | .int i => some (.inl i)
  | .str x => some (.inr x)
  | _ => none
def keyD : Key → D
  | .inl i => .int i
  | .inr x => .str x
def hasKK (ks : List Key) (k : Key) : Bool := ks.any fun q => decide (q = k)
def putKK (ks : List Key) (k : Key) : List Key := if hasKK ks k = true then ks else ks ++ [k]
def putKX {α : Type} : List Key → List α → Key → α → List α
  | q :: ks, x :: xs, k, d => (if q = k then d else x) :: putKX ks xs k d
  | _, _, _, _ => []
def putDX {α : Type} (ks : List Key) (xs : List α) (k : Key) (d : α) : List α := if hasKK ks k = true then putKX ks xs k d else xs ++ [d]
section
variable {G : Gx} {H : Hp} {P : Addr → Prop}
end
def rSetK : V → V → V → Hp → (Hp → Prop) → Prop := fun o i v H Q => ∃ a H', o = .ref a ∧ DPut H a i v H' ∧ Q H'
section
variable {G : Gx} {W : WX} {pr : Addr → Prop} {io : List (Nat × V)} {σ : L2.St} {s s1 : Sx} {ios : List Nat} {Q : VK} {X : Cx} {a b c e : Expr} {pos p p2 p3 : Pos} {x : Str} {ga gb gc : Ev} {k : Nat}
def isDKey (ρ : Ss) (i : Nat) : Bool := match ρ[i]? with
  | some (some (.v .O (.dK _ _))) => true
  | _ => false
def tgSubK (i : Nat) (gi : Ev) : Tg := fun t ρ => if isDKey ρ i = true then match gi ρ with
  | .ok u ρ2 => match ρ2[i]? with
    | some (some (.v .O (.dK ks xs))) => match ((derT ρ2 u).bind frz).bind keyK with
      | some kd => match frz t with
        | some d => if ks.length < sizeLine then some (ρ2.set i (some (.v .O (.dK (putKK ks kd) (putDX ks xs kd d))))) else none
        | none => none
      | none => none
    | _ => none
  | _ => none
  else none
/-! a dict of ints by ints, as a display of constants -/
def eDctN (ps : List (Int × Int)) : Ev := fun ρ => .ok (.v .O (.dK (ps.map fun p => Sum.inl p.1) (ps.map fun p => .int p.2))) ρ
end
end PV

namespace PV
open PySem PySem.Spec L2
def itemK (p : Key × D) : Tm := .v .F (.tup [keyD p.1, p.2])
def itemsK (ks : List Key) (xs : List D) : List Tm := (ks.zip xs).map itemK
/-- for k, v in d.items(): the name is empty, the dict locked, while the loop goes -/
def sForI (i : Nat) (tgt : Tg) (body : Sm) : Sm := fun ρ => match ρ[i]? with
  | some (some (.v .O (.dK ks xs))) => if flat.flats xs = true then match forL tgt body (itemsK ks xs) (ρ.set i none) with
    | .nx ρ' => match ρ'[i]? with
      | some none => .nx (ρ'.set i (some (.v .O (.dK ks xs))))
      | _ => .no
    | _ => .no
    else .no
  | _ => .no
section
variable {G : Gx} {W : WX} {pr : Addr → Prop} {io : List (Nat × V)} {σ : L2.St} {s s1 : Sx} {ios : List Nat} {Q : VK} {X : Cx} {a b c e : Expr} {pos p p2 p3 : Pos} {x : Str} {ga gb gc : Ev} {k : Nat}
end
end PV

namespace PV
open PySem PySem.Spec L2
/-! ### list(d.values()), sorted(d) -/
def rValsL : V → Hp → VK → Prop := fun x H Q => ∃ (d : Addr) (kvs : List (Key × V)), x = .ref d ∧ H d = some (.dK kvs) ∧ ∀ p, H p = none → Q (.ref p) (upd H p (.lst (kvs.map Prod.snd)))
section
open PyProof.Rows
variable {X : Cx} {e : Expr} {te : TE} {p apos cpos pos : Pos}
/-- sorted(d), d a dict of int keys -/
def rSortK : List V → Hp → VK → Prop := fun vs H Q => ∃ (a : Addr) (kvs : List (Key × V)) (ns : List Int), vs = [.ref a] ∧ H a = some (.dK kvs) ∧ kvs.map Prod.fst = ns.map Sum.inl ∧ ∀ p, H p = none → Q (.ref p) (upd H p (.lst ((isort ns).map V.int)))
end
section
variable {G : Gx} {W : WX} {pr : Addr → Prop} {io : List (Nat × V)} {σ : L2.St} {s s1 : Sx} {ios : List Nat} {Q : VK} {X : Cx} {a b c e : Expr} {pos p p2 apos cpos : Pos} {ga gb gc : Ev} {k : Nat}
def opListV (t : Tm) : Option Tm := match t with
  | .v _ (.dK _ xs) => if flat.flats xs = true then some (.v .O (.lst xs)) else none
  | _ => none
def eListV : Ev → Ev := eOp1 opListV
def intsK : List Key → Option (List Int)
  | [] => some []
  | .inl i :: ks => (intsK ks).map (i :: ·)
  | .inr _ :: _ => none
def opSortK (t : Tm) : Option Tm := match t with
  | .v _ (.dK ks _) => (intsK ks).map fun ns => .v .O (.lst ((isort ns).map .int))
  | _ => none
def eSortK : Ev → Ev := eOp1 opSortK
end
end PV

namespace PV
open PySem PySem.Spec L2
/-! ### comprehensions with two fors: the second one over a tuple of flat data -/
def itF : Tm → Option (List Tm)
  | .v _ (.tup xs) => if flat.flats xs = true then some (xs.map (Tm.v .F)) else none
  | _ => none
/-- without L -/
def Sx.off (s : Sx) (L : Addr) : Sx := { s with H := fun b => if b = L then none else s.H b }
section
variable {G : Gx} {W : WX} {pr : Addr → Prop} {io : List (Nat × V)} {σ : L2.St} {s s1 : Sx} {ios : List Nat} {X : Cx} {a b c e tg : Expr} {pos p : Pos} {ga gb gc : Ev}
/-- for t in ..: for u in a tuple: the parts -/
def compS (tgt : Tg) (gn : Ev) (tgt1 : Tg) (elt : Ev) (vs vs1 : List Nat) : List Tm → Ss → Option (List D × Ss)
  | [], ρ => some ([], wipeS ρ vs)
  | t :: ts, ρ => match tgt t (wipeS ρ vs) with
    | some ρ1 => match gn ρ1 with
      | .ok n ρ2 => match itF n with
        | some us => match compL tgt1 eTrue elt vs1 us ρ2 with
            | some (ds1, ρ3) => match compS tgt gn tgt1 elt vs vs1 ts ρ3 with
              | some (ds, ρ4) => some (ds1 ++ ds, ρ4)
              | none => none
            | none => none
        | none => none
      | _ => none
    | none => none
def eCompS (it : Iv) (vs : List Nat) (tgt : Tg) (gn : Ev) (vs1 : List Nat) (tgt1 : Tg) (elt : Ev) : Ev := fun ρ => match it ρ with
  | .ok ts ρ1 => if vs.all (hideOk ρ1) = true then match compS tgt gn tgt1 elt vs vs1 ts ρ1 with
    | some (ds, ρ2) => if ds.length ≤ sizeLine then .ok (.v .O (.lst ds)) (restS ρ1 ρ2 vs) else .no
    | none => .no
    else .no
  | .ex e ρ1 => .ex e ρ1
  | .no => .no
variable {elt iter tg1 bn : Expr} {scope : Scope} {own : List (Str × Nat)} {spos py p1 p2 : Pos} {it : Iv} {tgt tgt1 : Tg} {gn gel : Ev} {tv tv1 vs1 : List Nat} {tg : Expr}
end
end PV


namespace PV
open PySem PySem.Spec L2
/-! ### names of the module that name an int, a text -/
section
variable {G : Gx} {W : WX} {ios : List Nat} {X : Cx} {pos : Pos} {x : Str}
theorem v_gI {n : Int} (h : ∃ u, X.mg x = some u ∧ RelV (.int n) u) (hg : Gl X x := by rfl) (hd : (x == ("__debug__" : Str)) = false := by decide) : PEv X G W ios (.Name x pos) (eC (.int n)) := let ⟨_, hm, hr⟩ := h; pe_imp (pe_glob hg hm hr hd) fun σ H Q q => by
  obtain ⟨pr, io, s, rfl, hi, r, q⟩ := of_tEv q
  exact q.done r (by simp only [Rep])
theorem v_gS {n : Str} (h : ∃ u, X.mg x = some u ∧ RelV (.str n) u) (hg : Gl X x := by rfl) (hd : (x == ("__debug__" : Str)) = false := by decide) : PEv X G W ios (.Name x pos) (eC (.str n)) := let ⟨_, hm, hr⟩ := h; pe_imp (pe_glob hg hm hr hd) fun σ H Q q => by
  obtain ⟨pr, io, s, rfl, hi, r, q⟩ := of_tEv q
  exact q.done r (by simp only [Rep])
end
end PV

namespace L2
open PySem PySem.Spec PyProof.Rows
def rRep01 (K : PySem.W.Frag) : R2 := fun x y H Q => ∃ l k xs, x = .ref l ∧ y = .int k ∧ SqT K H l xs ∧ xs ≠ [] ∧ ((k = 0 ∧ ∀ p, H p = none → Q (.ref p) (upd H p (.tup []))) ∨ (k = 1 ∧ Q (.ref l) H))
section
variable {X : Cx}
end
end L2
namespace PV
open PySem PySem.Spec L2
/-- a tuple times a number -/
def opMulT (t u : Tm) : Option Tm := match t, u with
  | .v k (.tup xs), .v _ (.int n) => match elk k xs with
    | some ys => if 0 ≤ n ∧ n ≤ 1000 ∧ 0 < ys.length ∧ ys.length ≤ 1000 then some (.v .F (.tup (List.replicate n.toNat ys).flatten)) else none
    | none => none
  | _, _ => none
def eMulT : Ev → Ev → Ev := eOp2 opMulT
section
variable {G : Gx} {W : WX} {ios : List Nat} {X : Cx} {a b : Expr} {pos : Pos} {ga gb : Ev}
end
end PV

/-! == and != by an own __eq__ -/
namespace PySem.W
open PySem PySem.Spec
section
variable {prog : Program} {w : World} {A : Around} {E : Value → Shared → Prop} {s : Shared} {K : Frag} {x C f : Addr} {ox : Obj} {od : Option Obj} {b tb : Value}
end
end PySem.W
namespace PV
open PySem PySem.Spec L2
section
variable {X : Cx} {C f : Addr} {k : Nat} {fd : FuncData} {ps : List Str} {sp : Sp}
/-- x == y (x != y) by x's own __eq__ -/
def rOwn (K : PySem.W.Frag) (C : Addr) (sp : Sp) (neg : Bool) : R2 := fun x y H Q => ∃ a dx fs t, x = .ref a ∧ H a = some (.ins C dx fs) ∧ TyX K H y t ∧ PySem.W.notFirst K C t = true ∧ sp [.ref a, y] H (fun v H' => ∃ b, v = .bl b ∧ Q (.bl (if neg = true then !b else b)) H') fun _ _ _ => False
end
end PV

namespace PV
open PySem PySem.Spec L2
/-! ### == and != by an own __eq__, isinstance of an own class -/
/-- what an own class owes -/
structure OwnC (K : PySem.W.Frag) (C : Addr) : Prop where
  ha : PySem.W.findIn K (.ref C) "__class__" = some (some (.builtin "object.__class__"))
  hn : PySem.W.specialIn K (.builtin "object.__class__") "__get__" = some (some (.builtin "getset_descriptor.__get__"))
  ht : PySem.W.takesIn K (.builtin "object.__class__") = some true
  hm : PySem.W.mroIn K C (.type "object") = some true
  ne : PySem.W.findIn K (.ref C) "__ne__" = some (some (.builtin "object.__ne__"))
/-- data whose type is known: built in, or of the class c -/
def tyC (c : Nat) (d : D) : Bool := match d with
  | .ins c' _ => decide (c' = c)
  | d => (tyD d).isSome
section
variable {G : Gx} {W : WX} {pr : Addr → Prop} {io : List (Nat × V)} {σ : L2.St} {s s1 : Sx} {ios : List Nat} {Q : VK} {X : Cx} {a b : Expr} {pos p : Pos} {ga gb : Ev} {c k n : Nat} {fa : Addr} {fd : FuncData} {ps : List Str} {fn : Fn} {ms : List Md}
def eOwn (c : Nat) (fn : Fn) (ms : List Md) (neg : Bool) (ga gb : Ev) : Ev := fun ρ => (ga ρ).bind fun t ρ1 => (gb ρ1).bind fun u ρ2 => if isOb c (derT ρ2 t) = true then match derT ρ2 u with
  | some u' => if tyC c (toD u') = true then match callF fn ms [t, u] ρ2 with
    | .ok (.v .F (.bl r)) ρ3 => .ok (.v .F (.bl (if neg = true then !r else r))) ρ3
    | _ => .no
    else .no
  | none => .no
  else .no
/-- isinstance(x, C), C an own class -/
def isC (c : Nat) (d : D) : Option D := match d with
  | .ins c' _ => if c' = c then some (.bl true) else none
  | d => (tyD d).map fun _ => .bl false
def eIsC (c : Nat) : Ev → Ev := eOp1 (rd1 (isC c))
theorem v_isC {x : Str} {p2 : Pos} (cf : ClsF X.K (G.ca c) (G.cn c)) (oc : OwnC X.K (G.ca c)) (ki : ∀ t : Ty, PySem.W.kitOne X.K (.type t.nm) (.ref (G.ca c)) = some false) (hm : X.mg "isinstance" = none) (hmC : X.mg x = some (.ref (G.ca c))) (ha : PEv X G W ios a ga) (hg : Gl X "isinstance" := by rfl) (hgC : Gl X x := by rfl) (hdb : (x == ("__debug__" : Str)) = false := by decide)
    (hs : starEach [a, .Name x p2] X.env = (false, eval a X.env) :: starEach [.Name x p2] X.env := by rfl) (hs2 : starEach [.Name x p2] X.env = (false, eval (.Name x p2) X.env) :: starEach [] X.env := by rfl) (hpl : (backTo pos (starEach [.Name x p2] X.env)).any (·.1) = false := by rfl) :
    PEv X G W ios (.Call (.Name "isinstance" p) [a, .Name x p2] [] pos) (eIsC c ga) :=
  pe_imp (pe_callB call_isi hg hm (by decide +kernel) (pa_cons ha (pa_cons (pe_glob (v := .ref (G.ca c)) hgC hmC rfl hdb) pa_nil hs2) hs) (by decide) (by decide) hs hpl) fun σ H Q q => by
    show tEv G W ios ga σ H fun x H1 => rIsi X.K [x, .ref (G.ca c)] H1 Q
    refine op1_end (f := rd1 (isC c)) (r := fun x H Q => rIsi X.K [x, .ref (G.ca c)] H Q) (Rd1.op ?_) rfl q
    intro H x dx d Q hx e q
    by_cases hi : ∃ c' xs, dx = .ins c' xs
    · obtain ⟨c', xs, rfl⟩ := hi
      simp only [isC] at e
      split at e
      · rename_i hc
        subst hc
        cases e
        simp only [Rep] at hx
        obtain ⟨a, dx, vs, rfl, _, h1, _⟩ := hx
        refine ⟨.ref a, .ref _, _, _, true, rfl, .own _, .base (.ins h1 cf.c oc.ha oc.hn oc.ht oc.hm), ?_, q _ fun P => by simp only [Rep]⟩
        unfold PySem.W.kitOne
        rw [if_pos (beq_self_eq_true _)]
      · cases e
    · have e' : (tyD dx).map (fun _ => D.bl false) = some d := by
        cases dx <;> first | exact e | exact absurd ⟨_, _, rfl⟩ hi
      obtain ⟨t, et, rfl⟩ := Option.map_eq_some_iff.mp e'
      exact ⟨x, .ref (G.ca c), _, _, _, rfl, .own _, tyX_of hx et, ki t, q _ fun P => by simp only [Rep]⟩
end
end PV

/-! try: .. except C as n: y = n  -- the caught error is kept -/
namespace L2N
open L2 PySem PySem.Spec PyProof.Rows
open PV (errAt)
section
variable {X : Cx} {pins : List (Addr × Obj)} {σ : St} {H : Hp} {s : Shared}
theorem errAt_ok {P : Program} {w : World} {H : Hp} {h : Heap} {a : Addr} {cls : Value} {d : Option Addr} {oe : Obj} {vs : Array Value} (e : h.get? a = some oe) (z : Zn cls d oe) (hd : oe.data = .fields vs) : ObjOk P w H h a (.ext (errAt cls d a)) :=
  ⟨⟨oe, vs, e, z, hd⟩, ⟨oe, e⟩, fun _ _ ⟨o, v, q, r⟩ k => ⟨o, v, k o q, r⟩⟩
/-- an object of ours that is not tracked is tracked -/
theorem Inv.track {a : Addr} {o : HO} (I : Inv X pins σ H s) (na : H a = none) (n0 : X.s_0.heap.get? a = none) (nL : a ≠ X.env.locals) (nC : ∀ x c, X.env.cells.lookup x = some c → c ≠ a) (nP : ∀ p ∈ X.pn ++ pins, p.1 ≠ a)
    (new : ObjOk X.prog X.w (upd H a o) s.heap a o) : Inv X pins σ (upd H a o) s := by
  have ne0 : ∀ b u, X.s_0.heap.get? b = some u → b ≠ a := fun b u e z => by rw [z, n0] at e; cases e
  refine ⟨I.ok, I.os, I.bare, ⟨I.base.keep, I.base.slot, fun b u q n hb => ?_, I.base.there, fun b xs q => ?_, fun b u xs q => ?_, fun b ps q => ?_⟩, I.loc, I.cell, ?_, fun x c e => ?_, fun p hp => ?_, fun b u e => ?_, I.len⟩
  · rw [upd_ne (ne0 b u q)]; exact I.base.free b u q n hb
  · have z := I.base.tups b xs q
    rw [upd_ne (fun y => by rw [y, na] at z; cases z)]; exact z
  · have z := I.base.frzs b u xs q
    rw [upd_ne (fun y => by rw [y, na] at z; cases z)]; exact z
  · obtain ⟨m, z⟩ := I.base.tbls b ps q
    exact ⟨m, by rw [upd_ne (fun y => by rw [y, na] at z; cases z)]; exact z⟩
  · rw [upd_ne (Ne.symm nL)]; exact I.free
  · rw [upd_ne (nC x c e)]; exact I.freeC x c e
  · obtain ⟨h1, h2, h3⟩ := I.pin p hp
    exact ⟨h1, by rw [upd_ne (nP p hp)]; exact h2, h3⟩
  · by_cases hb : b = a
    · subst hb
      rw [upd_same] at e
      cases e
      exact new
    · rw [upd_ne hb] at e
      exact (I.hok b u e).stay (fun c v _ q => q) (fun c q => by rw [upd_ne (ne_of_none q na)]; exact q) fun c xs q => by rw [upd_ne (ne_of_none q na)]; exact q
end
def wKeep (K : PySem.W.Frag) (c : Value) (i y : Nat) (Wout : WX) (D : Ends) : WX := fun cls d σ H => ∃ b, PySem.W.exmOne K cls c = some b ∧
  (b = true → ∀ a, H a = none → D.nx (((σ.set i (some (.ref a))).set y (some (.ref a))).set i none) (upd H a (.ext (errAt cls d a)))) ∧ (b = false → Wout cls d σ H)
section
variable {X : Cx} {x n yn : Str} {c : Value} {i y : Nat} {body : List Stmt} {np pn0 py ps pos pos' : Pos} {tb : WX → TS} {Wout : WX}
theorem ps_try_keep (hs : X.stack = X.env :: X.outer) (hf : X.env.frame = some X.env.locals) (hex : X.ex = []) (hN : X.N.Nodup) (hi : X.N[i]? = some n) (hln : X.env.kindOf n = some .local) (hc : Names X x c) (tk : Takes X Wout) (hy : X.N[y]? = some yn) (hyl : Loc X.env.scope yn) (hiy : i ≠ y)
    (hjv : Vis X.env.scope n) (hd1 : (n == ("__debug__" : Str)) = false) (hd2 : (n == ("__classdict__" : Str)) = false) (hilen : i < X.N.length)
    (hb : ∀ (W : WX) (pn : List (Addr × Obj)) (xe : Value → Shared → Prop), Takes (X.tr pn xe) W → PassesOwn (model X.prog X.w) X.A X.env xe → PSs (X.tr pn xe) body (tb W))
    (hsw : swapsWith (.Name n pn0) (some (.Name yn py)) ps.line X.env = pure false := by rfl) (hfn : X.fn yn = true ∨ X.env.scope.names.lookup yn = some .local := by first | exact .inl rfl | exact .inr rfl) :
    PS X (.Try body [.ExceptHandler (some (.Name x np)) (some n) [.Assign [.Name yn py] (.Name n pn0) ps] pos'] [] [] pos) (fun D σ H => tb (wKeep X.K c i y Wout D) D σ H) := by
  refine ⟨fun pins s σ H D I h => ?_⟩
  have ok := I.ok
  have hfr : X.A.frames = some (X.env :: X.outer) := by rw [ok.frames, hs]
  have hloc : Loc X.env.scope n := .inl hln
  refine wpAny_Try_except ?_
  refine wpAny_mono ((hb (wKeep X.K c i y Wout D) (X.pn ++ pins) (fun e s₁ => wpAny (model X.prog X.w) X.A (noteFrame e X.env) (fun _ s₂ => wpAny (model X.prog X.w) X.A (setFlight e none) (fun _ s₃ =>
    wpAny (model X.prog X.w) X.A (handleBy e X.env [.ExceptHandler (some (.Name x np)) (some n) [.Assign [.Name yn py] (.Name n pn0) ps] pos']) (SP X pins D) X.xe s₃) X.xe s₂) X.xe s₁) (fun u s' xx => ?_) PassesOwn.looking).run [] s σ H D (I.toTry _) h) (fun f s1 hsp => ?_) (fun e s1 he => he)
  · -- the catch
    obtain ⟨a, B, sI, pins', σ', H', cls, d, rfl, J', nb, up, sky, na, os, ag, b, hb1, hyes, hno⟩ := xx
    have J : Inv X pins σ' H' sI := J'.ofTry ok
    have sky' : Sky B (X.env :: X.outer) a (Zn cls d) X.env.locals s'.heap := by rw [← hs]; exact sky
    show wpAny (model X.prog X.w) X.A (noteFrame (.ref a) X.env) _ _ _
    refine Sky.land Zn.steady hfr hf sky' fun h3 fl3 up3 => ?_
    have J3 : Inv X pins σ' H' { s' with heap := h3 } := J.landed nb fl3.1 (up.trans up3) os ag
    obtain ⟨oe3, vs3, he3, hz3, hd3⟩ := fl3.there
    have notFr : ∀ {h : Heap} {o : Obj} {vs : Array Value}, h.FunFrames B (X.env :: X.outer) → h.get? a = some o → o.data = .fields vs → a ∉ frs (X.env :: X.outer) := fun {h o vs} ff e dd hm => by
      obtain ⟨_, o', e', hnf⟩ := ff.mem hm
      rw [e] at e'; cases e'
      exact hnf _ dd
    have nfr := notFr fl3.2.2.1 he3 hd3
    have nL : a ≠ X.env.locals := fun z => nfr (List.mem_filterMap.mpr ⟨X.env, List.mem_cons_self, by rw [hf, z]⟩)
    have nF : a ∉ X.fs := fun hm => by
      obtain ⟨e, he, q⟩ := List.mem_filterMap.mp hm
      exact nfr (List.mem_filterMap.mpr ⟨e, List.mem_cons_of_mem _ he, q⟩)
    have S3 := J3.suite he3 hd3 na nL nF
    have notI : ∀ o, sI.heap.get? a ≠ some o := fun o e => by
      have z := nb a o e (by rw [hs]; exact nfr)
      rw [fl3.2.1] at z; cases z
    have n0 : X.s_0.heap.get? a = none := by
      cases e : X.s_0.heap.get? a with
      | none => rfl
      | some o =>
        obtain ⟨o', q⟩ := J.base.there a o e (by rw [hex]; exact fun z => nomatch z)
        exact absurd q (notI o')
    have nP : ∀ p ∈ X.pn ++ pins, p.1 ≠ a := fun p hp z => by
      have q := (J.pin p hp).1
      rw [z] at q
      exact notI _ q
    have nC : ∀ x c, X.env.cells.lookup x = some c → c ≠ a := fun x c e z => by
      obtain ⟨v, o, ho, _⟩ := J.cell x c e
      rw [z] at ho
      exact notI _ ho
    refine wpAny_handleBy_cons (codeAny_handlers_test ?_) (by intro q; cases q)
    have LT : PySem.W.Looks (model X.prog X.w) h3 (typeOf (.ref a)) cls := fun A Q E s k q => wpAny_typeOf_ref (k _ _ he3) (by rw [hz3.1]; exact q)
    have LM := PySem.W.exm_one (M := model X.prog X.w) (J3.kIn) LT hb1
    have test : ∀ {Q : Value → Shared → Prop} {E : Value → Shared → Prop}, Q c { s' with heap := h3 } → wpAny (model X.prog X.w) (X.A.mark (some (.ref a))) (eval (.Name x np) X.env) Q E { s' with heap := h3 } := fun {Q E} q => by
      obtain ⟨hg, hdbg, hm | ⟨hm, hv, hnn⟩⟩ := hc
      · exact ld_glob (X := X.suite a ((a, oe3) :: (X.pn ++ pins))) S3 hg hm q hdbg
      · exact ld_blt (X := X.suite a ((a, oe3) :: (X.pn ++ pins))) S3 hg hm hv q hnn hdbg
    refine test (LM.here ?_)
    cases b with
    | true =>
      refine codeAny_handlers_suite_as ?_
      refine HandSPX.lands_againZ fl3 fun h4 fl4 up4 => ?_
      have J4 : Inv X pins σ' H' { s' with heap := h4 } := J.landed nb fl4.1 ((up.trans up3).trans up4) os ag
      obtain ⟨oe4, vs4, he4, hz4, hd4⟩ := fl4.there
      have S4 := J4.suite he4 hd4 na nL nF
      refine store_ok (X := X.suite a ((a, oe4) :: (X.pn ++ pins))) (v := .ref a) S4 hN hi hloc rfl (fun s5 S5 => ?_) (.inr hln)
      have run := (pss_one (ps_set (X := X.suite a ((a, oe4) :: (X.pn ++ pins))) (i := y) (pos := ps) hN hy hyl (pe_var (i := i) (pos := pn0) hi hjv hd1 hd2) hsw hfn))
      have hil : i < σ'.length := by rw [J.len]; exact hilen
      refine wpAny_mono (run.run [] s5 _ H' { nx := fun σ6 H6 => σ6 = (σ'.set i (some (.ref a))).set y (some (.ref a)) ∧ H6 = H', rt := fun _ _ => False, bk := fun _ _ => False, ct := fun _ _ => False } S5 ?_) (fun f s6 hsp => ?_) (fun _ _ z => False.elim z)
      · exact ⟨.ref a, by rw [List.getElem?_set_self hil], rfl, rfl⟩
      cases f with
      | next =>
        obtain ⟨σ6, H6, S6, e1, e2⟩ := hsp
        subst e1 e2
        have g6 := (S6.pin (a, oe4) (List.mem_append_left _ List.mem_cons_self)).1
        have T6 := Inv.track (S6.unsuite ok) na n0 nL nC nP (errAt_ok (cls := cls) (d := d) g6 hz4 hd4)
        exact gone_ok T6 hN hi hln fun s7 J7 => ⟨_, _, J7, hyes rfl a na⟩
      | brk =>
        obtain ⟨σ6, H6, S6, q6⟩ := hsp
        exact q6.elim
      | cont =>
        obtain ⟨σ6, H6, S6, q6⟩ := hsp
        exact q6.elim
      | ret u =>
        obtain ⟨v6, σ6, H6, S6, r6, q6⟩ := hsp
        exact q6.elim
    | false =>
      show wpAny _ X.A (handleBy (.ref a) X.env []) _ _ _
      refine wpAny_handleBy_nil ?_
      obtain ⟨k1, k2, k3, oe, vs, T, oT, ts', he, hz, hd, h1, hr⟩ := id fl3
      unfold PySem.passOn
      refine wpAny_bind (wpAny_field he hd h1 ?_)
      rw [if_neg (show ¬ ((Value.ref T == Value.none) = true) from by simp)]
      have fin : wpAny (model X.prog X.w) X.A (setFlight (.ref a) X.env.frame) (fun _ s4 => wpAny (model X.prog X.w) X.A (throw (.ref a) : Sem Flow) (SP X pins D) X.xe s4) X.xe { s' with heap := h3 } := by
        rw [hf]
        refine HandSPX.setFlight_upZ fl3 fun h4 hh4 up4 => wpAny_throw (tk _ _ ?_)
        exact ⟨a, B, sI, pins, σ', H', cls, d, rfl, J, nb, (up.trans up3).trans up4, .inr (.inr (by rw [hs]; exact hh4)), na, os, ag, hno rfl⟩
      first
        | exact wpAny_bind (wpAny_pure (wpAny_bind fin))
        | exact wpAny_bind fin
  · cases f with
    | next =>
      obtain ⟨σ', H', J', q⟩ := hsp
      exact wpAny_execs_nil ⟨σ', H', J'.ofTry ok, q⟩
    | brk =>
      obtain ⟨σ', H', J', q⟩ := hsp
      exact ⟨σ', H', J'.ofTry ok, q⟩
    | cont =>
      obtain ⟨σ', H', J', q⟩ := hsp
      exact ⟨σ', H', J'.ofTry ok, q⟩
    | ret u =>
      obtain ⟨v, σ', H', J', r, q⟩ := hsp
      exact ⟨v, σ', H', J'.ofTry ok, r, q⟩
/-- what the class says for reading a kept error's field -/
structure FldX (K : PySem.W.Frag) (C : Addr) (f : Str) : Prop where
  ga : PySem.W.findIn K (.ref C) "__getattribute__" = some (some (.builtin "BaseException.__getattribute__"))
  gg : PySem.W.findIn K (.ref C) "__getattr__" = some none
  exC : PySem.W.subIn K (.ref C) (.type "BaseException") = some true
  hdC : PySem.W.hasDictIn K C = true
  noN : PySem.W.findIn K (.ref C) f = some none
/-- e.f, e a kept error with the one field f -/
theorem pe_errFld {C : Addr} {f : Str} {e : Expr} {te : TE} {pos : Pos} (T : FldX X.K C f) (he : PE X e te) (hb : attributeBase e f X.env (eval e X.env) = eval e X.env := by rfl) :
    PE X (.Attribute e f pos) (fun σ H Q => te σ H fun x H1 => ∃ (a dd : Addr) (v : V), x = .ref a ∧ H1 a = some (.ext (errAt (.ref C) (some dd) a)) ∧ H1 dd = some (.xd [(f, v)]) ∧ Q v H1) := by
  refine ⟨fun pins s σ H Q I h => ?_⟩
  refine attr_of hb (thn (he.run pins s σ H _ I h) fun u s1 hh => ?_)
  obtain ⟨x, H1, I1, rx, a, dd, v, ex, ea, ed, q⟩ := hh
  subst ex
  obtain rfl : u = Value.ref a := rx
  obtain ⟨⟨oe, vs, ha, hz, hd⟩, _⟩ := (show ObjOk X.prog X.w H1 s1.heap a (.ext (errAt (.ref C) (some dd) a)) from I1.hok a _ ea)
  have hx : ObjOk X.prog X.w H1 s1.heap dd (.xd [(f, v)]) := I1.hok dd _ ed
  obtain ⟨mA, hns, hr⟩ := hx
  obtain ⟨od, ho, hl⟩ := lookIn_ns hns
  have l : List.lookup f [(f, v)] = some v := by simp [List.lookup]
  obtain ⟨u, hu, ru⟩ := RelO.some_of (v := v) (o := mA f) (by rw [← l]; exact hr f)
  have J : PySem.W.InstAt s1.heap a oe C (some od) := ⟨ha, hz.1, by unfold PySem.W.notCls; rw [hd] <;> rfl, by rw [hz.2.1]; exact ho⟩
  exact HandSPX.exc_get I1.kIn J T.ga T.gg T.exC (PySem.W.findObj_own T.hdC T.noN rfl (by rw [hl, hu])) (handed_of ru) ⟨v, H1, I1.tok _, ru, q⟩
/-- isinstance(e, c), e a kept error of the class D -/
def rIsK (K : PySem.W.Frag) (D : Addr) : List V → Hp → VK → Prop := fun xs H Q => ∃ (a : Addr) (d : Option Addr) (c : V) (cv : Value) (b : Bool), xs = [.ref a, c] ∧ H a = some (.ext (errAt (.ref D) d a)) ∧ (∀ dx, d = some dx → ∃ l, H dx = some (.xd l)) ∧ (∀ u, RelV c u → u = cv) ∧ PySem.W.kitOne K (.ref D) cv = some b ∧ Q (.bl b) H
theorem call_isK {D : Addr} (C : L2.ExcC X.K D) : CallR X (.builtin "isinstance") (rIsK X.K D) := by
  intro pins s σ H xs us Q I r h
  obtain ⟨a, d, c, cv, b, rfl, ea, hdx, hcv, e, q⟩ := h
  cases r with
  | cons rx rr =>
    cases rr with
    | cons rt rr =>
      cases rr
      cases rx
      have ec := hcv _ rt
      subst ec
      obtain ⟨⟨oe, vs, hget, hz, hv⟩, _⟩ := (show ObjOk X.prog X.w H s.heap a (.ext (errAt (.ref D) d a)) from I.hok a _ ea)
      have J : ∃ od, PySem.W.InstAt s.heap a oe D od := by
        cases d with
        | none => exact ⟨none, hget, hz.1, by unfold PySem.W.notCls; rw [hv] <;> rfl, by rw [hz.2.1]; trivial⟩
        | some dx =>
          obtain ⟨l, hl⟩ := hdx dx rfl
          have hx : ObjOk X.prog X.w H s.heap dx (.xd l) := I.hok dx _ hl
          obtain ⟨mA, hns, hr⟩ := hx
          obtain ⟨od, ho, _⟩ := lookIn_ns hns
          exact ⟨some od, hget, hz.1, by unfold PySem.W.notCls; rw [hv] <;> rfl, by rw [hz.2.1]; exact ho⟩
      obtain ⟨od, J⟩ := J
      have hcl : (PySem.W.clsIn X.K D).isSome = true := by obtain ⟨cd, hc, _⟩ := PySem.W.any_some C.hd; rw [hc]; rfl
      exact PySem.W.kia_one (PySem.W.kitx_exc hcl C.hg C.hk C.hs C.ha C.hn C.ht C.hm) I.kIn J e (fun z => nomatch z) fun tk => ⟨.bl b, H, I.kept (t' := tk) fun _ _ z => z, rfl, q⟩
end
end L2N

/-! kept errors: try: .. except C as n: y = n; y.f; isinstance(y, C) -/
namespace PV
open PySem PySem.Spec L2
def sTryK (kn : List Nat) (sub : Nat → Bool) (j y : Nat) (g : Sm) : Sm := fun ρ => match g ρ with
  | .ex e ρ1 => if e.c ∈ kn then (if sub e.c = true then (if j < ρ1.length ∧ y < ρ1.length then .nx ((ρ1.set j none).set y (some (.v .F (.err e.c e.ds)))) else .no) else .ex e ρ1) else .no
  | o => o
section
variable {G : Gx} {W : WX} {ios : List Nat} {X : Cx} {pr : Addr → Prop} {io : List (Nat × V)} {σ : L2.St} {s s1 : Sx} {D : Ends} {Wout : WX}
theorem SR.newF (r : SR G pr io σ s) {p : Addr} (hp : s.H p = none) (o : HO) : SR G pr io σ { s with H := upd s.H p o, fz := fun b => s.fz b ∨ b = p } ∧ Ext s { s with H := upd s.H p o, fz := fun b => s.fz b ∨ b = p } := by
  have xn : Ext s (s.new p o) := Ext.new hp _
  have fr := r.fresh hp
  have r := r.new hp o
  refine ⟨⟨Sl.keep (fun _ h => .inl h) (fun _ h => .inr h) (Tk.refl _) (fun _ _ _ h => h) r.sl, r.nd, fun a ha => ⟨fun z => z.elim (r.sep a ha).1 fun z => fr.2.2 (by rw [← z]; exact ha), (r.sep a ha).2⟩, fun a h => ?_, r.iov⟩, ⟨xn.keep, xn.dom, xn.tk, fun _ h => .inl h, fun a h => h.elim .inl fun z => .inr (.inr (by rw [z]; exact hp)), xn.oso⟩⟩
  rcases h with (h | h) | h
  · exact r.dom a (.inl h)
  · rw [h]; show upd _ _ _ _ ≠ none; rw [upd_same]; simp
  · exact r.dom a (.inr h)
theorem tryK_end {kn : List Nat} {sub : Nat → Bool} {c j y : Nat} {g : Sm} (te : ∀ k ∈ kn, PySem.W.exmOne X.K (.ref (G.ca k)) (.ref (G.ca c)) = some (sub k)) (hjo : j ∉ ios) (hyo : y ∉ ios) (hyj : y ≠ j) {H : Hp} (q : tSv G Wout ios (sTryK kn sub j y g) D σ H) :
    tSv G (L2N.wKeep X.K (.ref (G.ca c)) j y Wout D) ios g D σ H := by
  obtain ⟨pr, io, s, rfl, hi, r, q⟩ := of_tSv q
  refine tSv_of hi r ?_
  unfold sTryK at q
  cases eg : g s.ρ with
  | nx ρ' => rw [eg] at q; exact q
  | bk ρ' => rw [eg] at q; exact q
  | ct ρ' => rw [eg] at q; exact q
  | rt t ρ' => rw [eg] at q; exact q
  | no => rw [eg] at q; exact q
  | ex e ρ1 =>
    rw [eg] at q
    dsimp only at q
    split at q
    · rename_i hkn
      intro cls dd σ' s' e1 r1 x1 er
      refine ⟨sub e.c, by rw [er.1]; exact te _ hkn, fun hb a ha => ?_, fun hb => ?_⟩
      · rw [if_pos hb] at q
        split at q
        · rename_i hl
          obtain ⟨os', r2, x2⟩ := SR.empty j (by rw [hi]; exact hjo) r1 x1
          obtain ⟨r3, x3⟩ := r2.newF (p := a) ha (.ext (errAt cls dd a))
          have pv : Tp G pr (σ'.set j none) { s' with ρ := s'.ρ.set j none, os := os', H := upd s'.H a (.ext (errAt cls dd a)), fz := fun b => s'.fz b ∨ b = a } (.v .F (.err e.c e.ds)) (.ref a) [] := by
            refine ⟨⟨rfl, ?_⟩, .nil, fun a ha => by cases ha⟩
            simp only [Rep]
            have kp : ∀ b o, s'.H b = some o → upd s'.H a (.ext (errAt cls dd a)) b = some o := fun b o z => by rw [upd_ne (ne_of_none z ha)]; exact z
            obtain ⟨hcls, er⟩ := er
            obtain ⟨ec, eds⟩ := e
            dsimp only at er hcls ⊢
            cases eds with
            | nil =>
              dsimp only at er
              subst er
              exact ⟨a, none, [], rfl, .inr rfl, by rw [upd_same, hcls], by simp [Reps], (fun dx z => absurd z (by simp)), (fun _ => rfl)⟩
            | cons d ds =>
              dsimp only at er
              obtain ⟨dx, vs, rfl, hfd, hdx, hvl, hvs⟩ := er
              refine ⟨a, some dx, vs, rfl, .inr rfl, by rw [upd_same, hcls], Reps.keep (fun _ h => .inl h) (fun b o _ z => kp b o z) ⟨fun b u z => kp b _ z, fun b o u z => kp b _ z⟩ _ _ hvs, fun dx' z => ?_, fun z => by cases z⟩
              cases z
              exact ⟨.inl hfd, kp _ _ hdx, hvl⟩
          obtain ⟨os2, r4, x4⟩ := r3.store (Ext.refl _) pv Frs.nil rfl (i := y) (by show y < (s'.ρ.set j none).length; rw [List.length_set, e1]; exact hl.2) (by rw [hi]; exact hyo)
          show D.nx ((((σ'.set j (some (.ref a))).set y (some (.ref a)))).set j none) _
          rw [set_none_ref hyj]
          exact q _ _ (by show (s'.ρ.set j none).set y _ = _; rw [e1]) r4 ((x2.trans x3).trans x4)
        · exact q.elim
      · rw [if_neg (by rw [hb]; simp)] at q
        exact q cls dd σ' s' e1 r1 x1 er
    · exact q.elim
theorem s_tryK {kn : List Nat} {sub : Nat → Bool} {c j y : Nat} {g : Sm} {body : List Stmt} {cn n yn : Str} {np pn0 py ps pos pos' : Pos} (hst : X.stack = X.env :: X.outer) (hf : X.env.frame = some X.env.locals) (hex : X.ex = []) (hN : X.N.Nodup) (tk : L2N.Takes X W)
    (hb : ∀ (W' : WX) (pn : List (Addr × Obj)) (xe : Value → Shared → Prop), L2N.Takes (X.tr pn xe) W' → PassesOwn (model X.prog X.w) X.A X.env xe → PBv (X.tr pn xe) G W' ios body g)
    (te : ∀ k ∈ kn, PySem.W.exmOne X.K (.ref (G.ca k)) (.ref (G.ca c)) = some (sub k)) (hnm : Names X cn (.ref (G.ca c))) (hi : X.N[j]? = some n) (hln : X.env.kindOf n = some .local) (hy : X.N[y]? = some yn) (hyl : Loc X.env.scope yn) (hjv : Vis X.env.scope n)
    (hjo : j ∉ ios) (hyo : y ∉ ios) (hyj : y ≠ j) (hjl : j < X.N.length) (hd1 : (n == ("__debug__" : Str)) = false) (hd2 : (n == ("__classdict__" : Str)) = false)
    (hsw : swapsWith (.Name n pn0) (some (.Name yn py)) ps.line X.env = pure false := by rfl) (hfn : X.fn yn = true ∨ X.env.scope.names.lookup yn = some .local := by first | exact .inl rfl | exact .inr rfl) :
    PSv X G W ios (.Try body [.ExceptHandler (some (.Name cn np)) (some n) [.Assign [.Name yn py] (.Name n pn0) ps] pos'] [] [] pos) (sTryK kn sub j y g) :=
  ps_imp (L2N.ps_try_keep hst hf hex hN hi hln hnm tk hy hyl (Ne.symm hyj) hjv hd1 hd2 hjl (tb := fun W' => tSv G W' ios g) (fun W' pn xe tk' po => hb W' pn xe tk' po) hsw hfn) fun D σ H q => tryK_end te hjo hyo hyj q
/-- y.f -/
def errF (c : Nat) : Tm → Option Tm
  | .v .O (.err c' [d]) => if c' = c then some (.v .F d) else none
  | .v k (.err c' [d]) => if c' = c then some (.v k d) else none
  | _ => none
def eErr (c : Nat) : Ev → Ev := eOp1 (errF c)
theorem v_err {c : Nat} {f : Str} {e : Expr} {ga : Ev} {pos : Pos} (T : L2N.FldX X.K (G.ca c) f) (hn : G.cn c = [f]) (ha : PEv X G W ios e ga) (hb : attributeBase e f X.env (eval e X.env) = eval e X.env := by rfl) : PEv X G W ios (.Attribute e f pos) (eErr c ga) :=
  pe_imp (L2N.pe_errFld T ha hb) fun σ H Q q => by
    refine op1_end (f := errF c) (r := fun x H Q => ∃ (a dd : Addr) (v : V), x = .ref a ∧ H a = some (.ext (errAt (.ref (G.ca c)) (some dd) a)) ∧ H dd = some (.xd [(f, v)]) ∧ Q v H) ?_ rfl q
    intro pr io σ s x tx t ox Q hr hx e q
    have key : ∀ {P : Addr → Prop} {d : PV.D}, Rep G s.H P (.err c [d]) x → ∃ (a dd : Addr) (v : V), x = .ref a ∧ s.H a = some (.ext (errAt (.ref (G.ca c)) (some dd) a)) ∧ s.H dd = some (.xd [(f, v)]) ∧ Rep G s.H P d v := by
      intro P d h
      simp only [Rep, Reps] at h
      obtain ⟨a, od, vs, rfl, _, h1, ⟨v, _, rfl, hv, rfl⟩, h3, h4⟩ := h
      cases od with
      | none => exact absurd (h4 rfl) (by simp)
      | some dd =>
        obtain ⟨_, h5, _⟩ := h3 dd rfl
        rw [hn] at h5
        exact ⟨a, dd, v, rfl, h1, h5, hv⟩
    unfold errF at e
    split at e
    · rename_i c' d
      split at e
      · rename_i hc
        subst hc
        cases e
        simp only [TmR, RepO] at hx
        obtain ⟨a, dd, v, e1, e2, e3, hv⟩ := key hx.2
        exact ⟨a, dd, v, e1, e2, e3, q.done hr hv⟩
      · cases e
    · rename_i k c' d hk
      split at e
      · rename_i hc
        subst hc
        cases e
        cases k with
        | O => first | exact (hk rfl).elim | exact (hk _ rfl).elim | exact absurd rfl (hk _ _)
        | F =>
          simp only [TmR] at hx
          obtain ⟨a, dd, v, e1, e2, e3, hv⟩ := key hx.2
          exact ⟨a, dd, v, e1, e2, e3, q.done hr hv⟩
        | B =>
          simp only [TmR] at hx
          obtain ⟨a, dd, v, e1, e2, e3, hv⟩ := key hx.2
          exact ⟨a, dd, v, e1, e2, e3, q.here hr (ot := []) ⟨⟨rfl, hv⟩, .nil, fun a ha => by cases ha⟩ Frs.nil⟩
      · cases e
    · cases e
/-- isinstance(y, C) of a kept error, C an own class -/
def isE (kn : List Nat) (sub : Nat → Bool) : PV.D → Option PV.D
  | .err c _ => if c ∈ kn then some (.bl (sub c)) else none
  | _ => none
def eIsE (kn : List Nat) (sub : Nat → Bool) : Ev → Ev := eOp1 (rd1 (isE kn sub))
theorem rd_isE {kn : List Nat} {sub : Nat → Bool} {c0 : V} {cv : Value} (hcv : ∀ u, RelV c0 u → u = cv) (ks : ∀ k ∈ kn, PySem.W.kitOne X.K (.ref (G.ca k)) cv = some (sub k)) : Rd1 G (isE kn sub) (fun x H Q => ∃ k ∈ kn, L2N.rIsK X.K (G.ca k) [x, c0] H Q) := by
  intro H x dx d Q hx e q
  cases dx <;> simp only [isE, reduceCtorEq] at e
  rename_i c xs
  split at e
  · rename_i hk
    cases e
    simp only [Rep] at hx
    obtain ⟨a, od, vs, rfl, _, h1, _, h3, _⟩ := hx
    exact ⟨c, hk, a, od, c0, cv, _, rfl, h1, fun dx z => ⟨_, (h3 dx z).2.1⟩, hcv, ks c hk, q _ fun P => by simp only [Rep]⟩
  · cases e
theorem v_isE {kn : List Nat} {sub : Nat → Bool} {c : Nat} {x : Str} {a : Expr} {ga : Ev} {p p2 pos : Pos} (xc : ∀ k ∈ kn, L2.ExcC X.K (G.ca k)) (ks : ∀ k ∈ kn, PySem.W.kitOne X.K (.ref (G.ca k)) (.ref (G.ca c)) = some (sub k)) (hm : X.mg "isinstance" = none) (hmC : X.mg x = some (.ref (G.ca c))) (ha : PEv X G W ios a ga) (hg : Gl X "isinstance" := by rfl) (hgC : Gl X x := by rfl) (hdb : (x == ("__debug__" : Str)) = false := by decide)
    (hs : starEach [a, .Name x p2] X.env = (false, eval a X.env) :: starEach [.Name x p2] X.env := by rfl) (hs2 : starEach [.Name x p2] X.env = (false, eval (.Name x p2) X.env) :: starEach [] X.env := by rfl) (hpl : (backTo pos (starEach [.Name x p2] X.env)).any (·.1) = false := by rfl) :
    PEv X G W ios (.Call (.Name "isinstance" p) [a, .Name x p2] [] pos) (eIsE kn sub ga) := by
  have cr : CallR X (.builtin "isinstance") (fun vs H Q => ∃ k ∈ kn, L2N.rIsK X.K (G.ca k) vs H Q) := fun pins s σ H vs us Q I r ⟨k, hk, h⟩ => L2N.call_isK (xc k hk) pins s σ H vs us Q I r h
  refine pe_imp (pe_callB cr hg hm (by decide +kernel) (pa_cons ha (pa_cons (pe_glob (v := .ref (G.ca c)) hgC hmC rfl hdb) pa_nil hs2) hs) (by decide) (by decide) hs hpl) fun σ H Q q => ?_
  show tEv G W ios ga σ H fun x H1 => ∃ k ∈ kn, L2N.rIsK X.K (G.ca k) [x, .ref (G.ca c)] H1 Q
  exact op1_end (f := rd1 (isE kn sub)) (r := fun x H Q => ∃ k ∈ kn, L2N.rIsK X.K (G.ca k) [x, .ref (G.ca c)] H Q) (Rd1.op (rd_isE (fun u r => by cases r; rfl) ks)) rfl q
end
end PV

/-! dict(zip(a, b)) of two lists, the first one of different keys; len(set(xs)) of different ints -/
namespace PV
open PySem PySem.Spec L2 PyProof.Rows
def rDictZip (K : PySem.W.Frag) : List V → Hp → VK → Prop := fun vs H Q => ∃ (a b : Addr) (ks : List Key) (ys : List V), vs = [.ref a, .ref b] ∧ SqL K H a (ks.map kV) ∧ SqL K H b ys ∧ ks.length ≤ ys.length ∧
  ∀ p, H p = none → Q (.ref p) (upd H p (.dK (mergeK [] (ks.zip ys))))
section
variable {G : Gx} {W : WX} {pr : Addr → Prop} {io : List (Nat × V)} {σ : L2.St} {s s1 : Sx} {ios : List Nat} {Q : VK} {X : Cx} {a b : Expr} {pos p p2 pos2 : Pos} {ga gb : Ev}
def keysKD : List D → Option (List Key)
  | [] => some []
  | d :: ds => match keyK d, keysKD ds with
    | some k, some ks => some (k :: ks)
    | _, _ => none
def opDZip (t u : Tm) : Option Tm := match t, u with
  | .v _ (.lst xs), .v _ (.lst ys) => match keysKD xs with
    | some ks => if ks.length ≤ ys.length ∧ ks.Nodup then (match frz u with | some (.lst zs) => some (.v .O (.dK ks (zs.take ks.length))) | _ => none) else none
    | none => none
  | _, _ => none
def eDZip : Ev → Ev → Ev := eOp2 opDZip
/-! ### len(set(xs)) -/
def lenSetD : PV.D → Option PV.D
  | .lst xs => match intsD xs with
    | some ns => if ns.length ≤ 4000 ∧ ns.Nodup then some (.int ns.length) else none
    | none => none
  | _ => none
def eLenSet : Ev → Ev := eOp1 (rd1 lenSetD)
/-! ### d[k], keys of ints or texts, flat values -/
def opIdxD (t u : Tm) : Option Tm := match t, u with
  | .v _ (.dK ks xs), .v _ d => match keyK d with
    | some k => match lookD ks xs k with
      | some z => if flat z = true then some (.v .F z) else none
      | none => none
    | none => none
  | _, _ => none
def eIdxD : Ev → Ev → Ev := eOp2 opIdxD
end
end PV

/-! a comprehension whose items are owned by the new list (or lent) -/
namespace PV
open PySem PySem.Spec L2
def compT (tgt : Tg) (test elt : Ev) (vs : List Nat) : List Tm → Ss → Option (List Tm × Ss)
  | [], ρ => some ([], wipeS ρ vs)
  | t :: ts, ρ => match tgt t (wipeS ρ vs) with
    | some ρ1 => match test ρ1 with
      | .ok b ρ2 => match asB b with
        | some true => match elt ρ2 with
          | .ok x ρ3 => if isLoc x = false then (match compT tgt test elt vs ts ρ3 with
              | some (ds, ρ4) => some (x :: ds, ρ4)
              | none => none) else none
          | _ => none
        | some false => compT tgt test elt vs ts ρ2
        | none => none
      | _ => none
    | none => none
def eCompT (it : Iv) (vs : List Nat) (tgt : Tg) (test elt : Ev) : Ev := fun ρ => match it ρ with
  | .ok ts ρ1 => if vs.all (hideOk ρ1) = true then match compT tgt test elt vs ts ρ1 with
    | some (ds, ρ2) => if ds.length ≤ sizeLine then .ok (.ls ds) (restS ρ1 ρ2 vs) else .no
    | none => .no
    else .no
  | .ex e ρ1 => .ex e ρ1
  | .no => .no
section
variable {G : Gx} {W : WX} {pr : Addr → Prop} {io : List (Nat × V)} {σ : L2.St} {s s1 s2 s3 : Sx} {ios : List Nat} {X : Cx} {a b c e tg : Expr} {pos p : Pos} {ga gb gc : Ev}
theorem TmRs.snoc {H : Hp} {fz : Addr → Prop} {t : Tm} {v : V} {o : List Addr} (ht : TmR G H fz pr t v o) : ∀ {ts : List Tm} {vs : List V} {os : List Addr}, TmRs G H fz pr ts vs os → TmRs G H fz pr (ts ++ [t]) (vs ++ [v]) (os ++ o)
  | [], vs, os, h => by
    simp only [TmRs] at h
    obtain ⟨rfl, rfl⟩ := h
    simp only [List.nil_append, TmRs]
    exact ⟨v, [], o, [], rfl, by simp, ht, rfl, rfl⟩
  | t0 :: ts, vs, os, h => by
    simp only [TmRs] at h
    obtain ⟨w, r, o1, o2, rfl, rfl, h1, h2⟩ := h
    simp only [List.cons_append, TmRs]
    exact ⟨w, r ++ [v], o1, o2 ++ o, rfl, by simp, h1, TmRs.snoc ht h2⟩
/-- what has been collected -/
structure TmAcc (G : Gx) (pr : Addr → Prop) (s1 s : Sx) (L : Addr) (ts : List Tm) (vs : List V) (os : List Addr) : Prop where
  rel : TmRs G s.H s.fz pr ts vs os
  nd : os.Nodup
  sep : ∀ a ∈ os, ¬ s.fz a ∧ ¬ pr a ∧ a ∉ s.os ∧ a ≠ L ∧ (a ∈ s1.os ∨ s1.H a = none)
theorem TmAcc.nil {L : Addr} : TmAcc G pr s1 s L [] [] [] := ⟨by simp [TmRs], .nil, fun a ha => by cases ha⟩
theorem TmAcc.on {L : Addr} {ts : List Tm} {vs : List V} {os : List Addr} (h : TmAcc G pr s1 s2 L ts vs os) (r : SR G pr io σ s2) (x : Ext s2 s3) : TmAcc G pr s1 s3 L ts vs os := by
  have kp : ∀ a o, (a ∈ os ∨ s2.fz a ∨ pr a) → s2.H a = some o → s3.H a = some o := fun a o p e => x.keep a o e fun z => by
    rcases p with p | p | p
    · exact (h.sep a p).2.2.1 z
    · exact (r.sep a z).1 p
    · exact (r.sep a z).2 p
  refine ⟨TmRs.keep x.fz (fun _ h => .inr h) x.tk _ _ _ kp h.rel, h.nd, fun a ha => ?_⟩
  obtain ⟨h1, h2, h3, h4⟩ := h.sep a ha
  obtain ⟨o, ho⟩ := (TmRs.own _ _ _ h.rel a ha).some
  refine ⟨fun z => ?_, h2, fun z => ?_, h4⟩
  · rcases x.fzo a z with k | k | k
    · exact h1 k
    · exact h3 k
    · rw [ho] at k; cases k
  · rcases x.oso a z with k | k
    · exact h3 k
    · rw [ho] at k; cases k
variable {elt iter : Expr} {ifs : List Expr} {scope : Scope} {own : List (Str × Nat)} {spos py : Pos} {it : Iv} {tgt : Tg} {test gel : Ev} {tv : List Nat}
end
end PV

/-! what a name owns is lent to some statements; the list that they make of it is forgotten behind them -/
namespace PV
open PySem PySem.Spec L2
def okF : Tm → Bool
  | .v .B d => flat d
  | t => noB t
def okFs : Ss → Bool
  | [] => true
  | none :: ρ => okFs ρ
  | some t :: ρ => okF t && okFs ρ
def isTpT : Tm → Bool
  | .tp _ => true
  | .v _ (.tup _) => true
  | _ => false
def unlend (i j : Nat) (t : Tm) (ρ : Ss) : Option Ss := match ρ[i]?, ρ[j]? with
  | some (some (.v .B _)), some (some (.ls ts)) => if okFs ((ρ.set i none).set j none) = true ∧ ts.all isTpT = true ∧ i ≠ j then some (((ρ.set i none).set j (some (.v .O (.lst (ts.map fun _ => .unk false))))).set i (some t)) else none
  | _, _ => none
def sLent (i j : Nat) (g : Sm) : Sm := fun ρ => match ρ[i]? with
  | some (some t) => (match g (ρ.set i (some (lentT t))) with
    | .nx ρ' => match unlend i j t ρ' with
      | some ρ2 => .nx ρ2
      | none => .no
    | .rt (.v .F d) ρ' => match unlend i j t ρ' with
      | some ρ2 => .rt (.v .F d) ρ2
      | none => .no
    | _ => .no)
  | _ => .no
section
variable {G : Gx} {W : WX} {pr pr' : Addr → Prop} {io : List (Nat × V)} {σ σ' : L2.St} {s s0 s1 s2 s3 : Sx} {ios : List Nat} {X : Cx} {D : Ends} {i j : Nat}
/-- the statements ahead of others -/
def PBp (X : Cx) (G : Gx) (W : WX) (ios : List Nat) (u : TS) (sts : List Stmt) (g : Sm) : Prop := PSs X sts (fun D σ H => tSv G W ios g { D with nx := u D } σ H)
end
end PV

/-! xs[k].m(e, ..): a list that a list owns, k a number that is written -/
namespace PV
open PySem PySem.Spec L2
section
variable {G : Gx} {W : WX} {pr : Addr → Prop} {io : List (Nat × V)} {σ : L2.St} {s s1 s2 : Sx} {ios : List Nat} {Q : VK} {X : Cx} {a b e o d ie : Expr} {es : List Expr} {pos p pos2 apos cpos : Pos} {x m f name : Str} {ga gb gc g gi : Ev} {gs gk : Ss → OuL} {i k c : Nat}
def lsA (ρ : Ss) (i k : Nat) : Option (List Tm × List D) := match ρ[i]? with
  | some (some (.ls ts)) => match ts[k]? with
    | some (.v .O (.lst xs)) => some (ts, xs)
    | _ => none
  | _ => none
def setI (ρ : Ss) (i k : Nat) (ts : List Tm) (xs : List D) : Ss := ρ.set i (some (.ls (ts.set k (.v .O (.lst xs)))))
def eLmI (op : List D → List D → Option (D × List D)) (i k : Nat) (gs : Ss → OuL) : Ev := fun ρ => match lsA ρ i k with
  | some (ts, xs) => match borL i gs ρ with
    | some us => match frzs us with
      | some ds => match op xs ds with
        | some (x, xs') => if xs'.length ≤ sizeLine then .ok (.v .F x) (setI ρ i k ts xs') else .no
        | none => .no
      | none => .no
    | none => .no
  | none => .no
variable {id : String} {rr : V → List V → Hp → VK → Prop} {op : List D → List D → Option (D × List D)}
end
end PV

/-! what a name owns is lent to one expression, whatever is lent within it -/
namespace PV
open PySem PySem.Spec L2
section
variable {G : Gx} {H H' : Hp} {fz fz' pr pr' : Addr → Prop}
end
section
variable {G : Gx} {W : WX} {pr : Addr → Prop} {io : List (Nat × V)} {σ : L2.St} {s s1 s2 : Sx} {ios : List Nat} {Q : VK} {X : Cx} {a b c e o d : Expr} {es : List Expr} {pos p : Pos} {x m : Str} {ga gb gc g : Ev} {gs gk : Ss → OuL} {i : Nat}
def eBorX (i : Nat) (g : Ev) : Ev := fun ρ => match ρ[i]? with
  | some (some t) => if okB (ρ.set i none) = true then match g (ρ.set i (some (lentT t))) with
    | .ok u ρ' => match unB u with
      | some w => if eqSs ρ' (ρ.set i (some (lentT t))) = true then .ok w ρ else .no
      | none => .no
    | _ => .no
    else .no
  | _ => .no
end
end PV

/-! texts: e.split(t), int(text), a sign in a text, the signs of a text, text[i] -/
namespace PV
open PySem PySem.Spec L2
section
variable {G : Gx} {W : WX} {pr : Addr → Prop} {io : List (Nat × V)} {σ : L2.St} {s s1 s2 s3 : Sx} {ios : List Nat} {Q : VK} {X : Cx} {a b o e tg : Expr} {pos p apos : Pos} {ga gb : Ev}
theorem strs_reps {H : Hp} {P : Addr → Prop} : ∀ ys : List Str, Reps G H P (ys.map .str) (ys.map V.str)
  | [] => by simp [Reps]
  | y :: ys => by
    simp only [List.map_cons, Reps, Rep]
    exact ⟨_, _, rfl, rfl, strs_reps ys⟩
def eSplit (ga gb : Ev) : Ev := fun ρ => (ga ρ).bind fun t ρ1 => match (derT ρ1 t).bind asS with
  | some z => (gb ρ1).bind fun u ρ2 => match (derT ρ2 u).bind asS with
    | some y => if (y.length == 0) = false ∧ z.length + 2 ≤ sizeLine then .ok (.v .O (.lst ((Txt.split z y).map .str))) ρ2 else .no
    | none => .no
  | none => .no
theorem v_split (ha : PEv X G W ios o ga) (hb : PEv X G W ios e gb) (hs : starEach [e] X.env = [(false, eval e X.env)] := by rfl) (hbase : attributeBase o "split" X.env (eval o X.env) = eval o X.env := by rfl) (hline : (apos.endLine == pos.line) = true := by rfl) :
    PEv X G W ios (.Call (.Attribute o "split" apos) [e] [] pos) (eSplit ga gb) :=
  pe_imp (pe_split ha hb hs hbase hline) fun σ H Q q => by
    obtain ⟨pr, io, s, rfl, hi, r, q⟩ := of_tEv q
    refine tEv_of hi r (OuP.bind q fun t v s1 ot r1 x1 p1 f1 q1 => ?_)
    cases ed : derT s1.ρ t with
    | none => rw [ed] at q1; exact q1.elim
    | some u =>
      obtain ⟨_, hu⟩ := p1.der r1 ed
      cases es : asS u with
      | none => rw [ed, Option.bind_some, es] at q1; exact q1.elim
      | some z =>
        rw [ed, Option.bind_some, es] at q1
        have ev := asS_of hu es
        subst ev
        refine ⟨⟨z, rfl⟩, tEv_of hi r1 (OuP.bind q1 fun t2 v2 s2 ot2 r2 x2 p2 f2 q2 => ?_)⟩
        cases e2 : derT s2.ρ t2 with
        | none => rw [e2] at q2; exact q2.elim
        | some u2 =>
          obtain ⟨_, hu2⟩ := p2.der r2 e2
          cases es2 : asS u2 with
          | none => rw [e2, Option.bind_some, es2] at q2; exact q2.elim
          | some y =>
            rw [e2, Option.bind_some, es2] at q2
            have ev2 := asS_of hu2 es2
            subst ev2
            dsimp only at q2
            split at q2
            · rename_i hc
              exact ⟨z, y, rfl, rfl, hc.1, hc.2, fun p hp => OuP.lst q2 r2 (strs_reps _) hp⟩
            · exact q2.elim
/-- int(text) -/
def intT : D → Option D
  | .str a => match PySem.intText? a with
    | some n => if a.length ≤ 640 then some (.int n) else none
    | none => none
  | _ => none
def eIntT : Ev → Ev := eOp1 (rd1 intT)
theorem v_intT (hm : X.mg "int" = none) (ha : PEv X G W ios a ga) (hg : Gl X "int" := by rfl) (hs : starEach [a] X.env = (false, eval a X.env) :: starEach [] X.env := by rfl) : PEv X G W ios (.Call (.Name "int" p) [a] [] pos) (eIntT ga) :=
  v_ty1 call_int_str (Rd1.op (by
    intro H x dx d Q hx e q
    cases dx <;> simp only [intT, reduceCtorEq] at e
    rename_i z
    simp only [Rep] at hx
    subst hx
    split at e
    · rename_i n hn
      split at e
      · rename_i hl
        cases e
        exact ⟨z, n, rfl, hn, hl, q _ fun P => by simp only [Rep]⟩
      · cases e
    · cases e)) hm ha hg (hs := hs)
/-- a sign in a text -/
def inT : D → D → Option D
  | .str c, .str z => match c.cps.toList with
    | [x] => some (.bl (decide (x ∈ z.cps.toList)))
    | _ => none
  | _, _ => none
def eInT : Ev → Ev → Ev := eOp2 (rd2 inT)
theorem rdInT : Rd2 G inT (fun x y H Q => ∃ (c : Nat) (z : Str), x = .str ⟨#[c]⟩ ∧ y = .str z ∧ Q (.bl (decide (c ∈ z.cps.toList))) H) := by
  intro H x y dx dy d Q hx hy e q
  cases dx <;> cases dy <;> simp only [inT, reduceCtorEq] at e
  rename_i c z
  simp only [Rep] at hx hy
  subst hx hy
  split at e
  · rename_i w hw
    cases e
    have hc : c = ⟨#[w]⟩ := by
      cases c with
      | mk cps =>
        have : cps = #[w] := by
          apply Array.toList_inj.mp
          simpa using hw
        rw [this]
    subst hc
    exact ⟨w, z, rfl, rfl, q _ fun P => by simp only [Rep]⟩
  · cases e
theorem v_inT (ha : PEv X G W ios a ga) (hb : PEv X G W ios b gb) (hm : behindInMarks .In b = false := by rfl) : PEv X G W ios (.Compare a [.In] [b] pos) (eInT ga gb) := v_cmp op_in_sign (Rd2.op rdInT) ha hb hm
/-- the signs of a text -/
def signsT (z : Str) : List Tm := z.cps.toList.map fun c => .v .F (.str ⟨#[c]⟩)
def itTxt (g : Ev) : Iv := fun ρ => (g ρ).bindL fun t ρ1 => match (derT ρ1 t).bind asS with
  | some z => .ok (signsT z) ρ1
  | none => .no
theorem walk_txt {z : Str} : ∃ Gd Y, Walk (Its z) (signsT z).length Gd Y ∧ ∀ s2 σ2, SR G pr io σ2 s2 → Ext s1 s2 → Gd s2.H ∧ ∀ i x H', i < (signsT z).length → Y i s2.H x H' →
      ∃ s3 t, s3.H = H' ∧ s3.ρ = s2.ρ ∧ SR G pr io σ2 s3 ∧ Ext s2 s3 ∧ (signsT z)[i]? = some t ∧ Tp G pr σ2 s3 t x [] := by
  have hl : (signsT z).length = z.cps.size := by simp [signsT]
  refine ⟨_, _, by rw [hl]; exact walk_str, fun s2 σ2 r2 x2 => ⟨trivial, fun i x H' hlt y => ?_⟩⟩
  obtain ⟨rfl, c, hc, rfl⟩ := y
  refine ⟨s2, .v .F (.str ⟨#[c]⟩), rfl, rfl, r2, Ext.refl _, by simp [signsT, hc], ⟨?_, .nil, fun a ha => by cases ha⟩⟩
  show TmR _ _ _ _ _ _ _
  simp only [TmR, Rep]
  exact ⟨trivial, trivial⟩
theorem i_txt (ha : PEv X G W ios a ga) : PIv X G W ios tg a (itTxt ga) := by
  refine ⟨fun pins s σ H R I q => (pi_str (tg := tg) ha).run pins s σ H R I ?_⟩
  obtain ⟨pr, io, s, rfl, hi, r, q⟩ := q
  refine tEv_of hi r ?_
  unfold itTxt at q
  cases eg : ga s.ρ with
  | no => rw [eg] at q; exact q.elim
  | ex e ρ' => rw [eg] at q; exact q
  | ok t ρ' =>
    rw [eg] at q
    intro v s1 ot e1 r1 x1 p1 f1
    subst e1
    simp only [Ou.bindL] at q
    cases ed : derT s1.ρ t with
    | none => rw [ed] at q; exact q.elim
    | some u =>
      obtain ⟨_, hu⟩ := p1.der r1 ed
      cases es : asS u with
      | none => rw [ed, Option.bind_some, es] at q; exact q.elim
      | some z =>
        rw [ed, Option.bind_some, es] at q
        have ev := asS_of hu es
        subst ev
        exact ⟨z, rfl, q _ s1 rfl r1 x1 walk_txt⟩
/-- text[i] -/
def ixS : D → D → Option D
  | .str z, .int i => if z.length ≤ sizeLine then (atI z.cps.toList i).map fun c => .str ⟨#[c]⟩ else none
  | _, _ => none
def eIxS : Ev → Ev → Ev := eOp2 (rd2 ixS)
theorem rdIxS : Rd2 G ixS rIxS := by
  intro H x y dx dy d Q hx hy e q
  cases dx <;> cases dy <;> simp only [ixS, reduceCtorEq] at e
  rename_i z i
  simp only [Rep] at hx hy
  subst hx hy
  split at e
  · rename_i hl
    simp only [Option.map_eq_some_iff] at e
    obtain ⟨c, hc, rfl⟩ := e
    exact ⟨z, i, c, rfl, rfl, hl, hc, q _ fun P => by simp only [Rep]⟩
  · cases e
theorem v_ixS (ha : PEv X G W ios a ga) (hb : PEv X G W ios b gb) (hs : PlainIx b := by exact fun _ _ => rfl) : PEv X G W ios (.Subscript a b pos) (eIxS ga gb) := v_ix ix_str (Rd2.op rdIxS) ha hb hs
end
end PV

/-! C.m(e, ..), m a classmethod of C; cls(e, ..) where a name holds an own class -/
namespace PV
open PySem PySem.Spec L2
section
variable {X : Cx} {k : Nat} {f C pq g q : Addr} {mc : Value} {fd : FuncData} {ps : List Str} {sp : Sp} {E : L2.St → XK} {x m : Str} {p p0 pos apos : Pos} {e : Expr} {es : List Expr} {t : TA} {pl : Sem Bool}
theorem run_Gc {pins : List (Addr × Obj)} {σ : L2.St} {H : Hp} {s : Shared} {Q : VK} {us : List Value} {vs : List V} (F : FnG X.prog X.w X.K X.mg X.base k f fd ps sp) (hr : RoomG k X.A) (hb : Binds X.K fd ps []) (hx : PassesAt (L2N.CX X.prog X.w) X σ (E σ))
    (I : Inv X pins σ H s) (r : Vals vs us) (h : sp vs H Q (E σ)) : codeAny (model X.prog X.w) X.A (.call (.ref f) ⟨us, []⟩) (fun r s' => match r with | .ok (.ret v) => EP X pins σ Q v s' | .ok _ => False | .error e => X.xe e s') s := by
  have b := hb s us I.kIn (by rw [List.append_nil, ← r.length]; exact F.len _ _ _ _ h)
  rw [List.append_nil] at b
  refine codeAny_mono (F.go X.A X.stack s H ⟨us, []⟩ us vs Q (E σ) hr I.env0 b r h) fun w s' hw => ?_
  match w, hw with
  | .error e, hw => exact hx pins H s e s' I hw
  | .ok (.ret u), hw => exact I.after hw
  | .ok .next, hw => exact hw.elim
  | .ok .brk, hw => exact hw.elim
  | .ok .cont, hw => exact hw.elim
theorem run_cmG {pins : List (Addr × Obj)} {σ : L2.St} {H : Hp} {s : Shared} {Q : VK} {us : List Value} {vs : List V} (F : FnG X.prog X.w X.K X.mg X.base k g fd ps sp) (hr : RoomG k X.A) (hb : Binds X.K fd ps []) (hx : PassesAt (L2N.CX X.prog X.w) X σ (E σ))
    (I : Inv X ((q, PySem.W.methodObj (.ref g) (.ref C)) :: pins) σ H s) (r : Vals vs us) (h : sp (.ref C :: vs) H Q (E σ)) : wpAny (model X.prog X.w) X.A (call (.ref q) us) (EP X pins σ Q) X.xe s := by
  have z : wpAny (model X.prog X.w) X.A (call (.ref q) us) (EP X ((q, PySem.W.methodObj (.ref g) (.ref C)) :: pins) σ Q) X.xe s :=
    wpAny_call (PySem.W.method_call (ClX.pin_at I) (run_Gc (us := .ref C :: us) (vs := .ref C :: vs) F hr hb hx I (.cons rfl r) h))
  exact thn z fun _ _ y => ClX.unpinE y
def tCMG (C : Addr) (sp : Sp) (E : L2.St → XK) (t : TA) : TE := fun σ H Q => t σ H fun vs H2 => sp (.ref C :: vs) H2 Q (E σ)
theorem pe_cmG (hg : Gl X x) (hm : X.mg x = some (.ref C)) (r : ClX.CRead X.K C mc) (c : ClX.CMet X.K C mc m pq g) (F : FnG X.prog X.w X.K X.mg X.base k g fd ps sp) (hr : RoomG k X.A) (hb : Binds X.K fd ps []) (hx : ∀ σ, PassesAt (L2N.CX X.prog X.w) X σ (E σ)) (ha : PA X (e :: es) t)
    (hdb : (x == ("__debug__" : Str)) = false) (hst : starEach (e :: es) X.env = (false, eval e X.env) :: starEach es X.env) (hpl : (backTo pos (starEach es X.env)).any (·.1) = false)
    (ht : eval (.Call (.Attribute (.Name x p0) m apos) (e :: es) [] pos) X.env = (do
      let ov ← eval (.Name x p0) X.env
      standAt apos.atName
      let (f, first) ← holding [ov] (getMethod ov m pl)
      callWith pos f first (backTo pos (starEach (e :: es) X.env)) (backToKw pos (keywordEach [] X.env)))) :
    PE X (.Call (.Attribute (.Name x p0) m apos) (e :: es) [] pos) (tCMG C sp E t) := by
  refine ⟨fun pins s σ H Q I h => ?_⟩
  refine PySem.W.methodCall_KW (pl := pl) (ld_glob I hg hm ?_ hdb) ht
  refine ClX.getmethcm_ok I r c fun s2 I2 => ?_
  refine ClX.callwith_cm I2 (ClX.base_none I (Nat.le_refl _)) c.fi (thn (ha.run pos _ s2 σ H _ I2 h) fun us s3 ⟨vs, H2, I3, rv, q2⟩ => ⟨⟨ClX.pin_at I3, I3.kIn⟩, ?_⟩) hst hpl
  exact run_cmG F hr hb (hx σ) I3 rv q2
variable {i n : Nat} {ks : List Str} {kws : List Keyword} {tk : TA} {gg : List Value → List Value → List Value} {gV : List V → List V → List V}
theorem pe_makeL (M : Mk X.K C f) (F : FnG X.prog X.w X.K X.mg X.base k f fd ps sp) (hr : RoomG (k + 1) X.A) (hi : X.N[i]? = some x) (hv : Vis X.env.scope x) (hb : KBn X.K fd ps (n + 1) ks gg gV) (hx : ∀ σ, PassesAt (L2N.CX X.prog X.w) X σ (E σ)) (ha : PA X (e :: es) t) (hkw : PK X kws tk)
    (hall : (backToKw pos (keywordEach kws X.env)).all (·.1.isSome) = true) (hks : (backToKw pos (keywordEach kws X.env)).filterMap (·.1) = ks) (hdb : (x == ("__debug__" : Str)) = false) (hcd : (x == ("__classdict__" : Str)) = false)
    (he : starEach (e :: es) X.env = (false, eval e X.env) :: starEach es X.env) (hpl : ((backTo pos (starEach (e :: es) X.env)).any (·.1) || (backToKw pos (keywordEach kws X.env)).any (·.1.isNone)) = false) :
    PE X (.Call (.Name x p) (e :: es) kws pos) (fun σ H Q => σ[i]? = some (some (.ref C)) ∧ tMakeV C sp gV E n ks.length t tk σ H Q) :=
  ⟨fun pins s σ H Q I ⟨hσ, h⟩ => wpAny_Call_Name_kw (thn ((pe_var hi hv hdb hcd).run pins s σ H (fun v H1 => v = .ref C ∧ H1 = H) I ⟨_, hσ, rfl, rfl⟩) fun u s0 ⟨v, H0, I0, r0, ev, eh⟩ => by
    subst ev eh
    obtain rfl : u = Value.ref C := r0
    exact PySem.W.callWith_KW (h₀ := X.base) I0.ok.mod.kin M.kp hall (thn (ha.run pos pins s0 σ H0 _ I0 h) fun us s1 h1 => by
      obtain ⟨vs, H1, I1, r, q⟩ := h1
      refine thn (hkw.run pos pins s1 σ H1 _ I1 q) fun ws s2 h2 => ?_
      obtain ⟨zs, H2, I2, rz, l1, l2, q2⟩ := h2
      refine ⟨I2.kIn, ?_⟩
      rw [hks]
      exact run_makeV M F hr hb (hx σ) I2 r rz l1 l2 q2) hpl he)⟩
end
section
variable {G : Gx} {W : WX} {pr : Addr → Prop} {io : List (Nat × V)} {σ : L2.St} {s s1 : Sx} {ios : List Nat} {Q : VK} {X : Cx} {e : Expr} {es : List Expr} {pos p p0 apos : Pos} {c i k n : Nat} {f fa C pq g : Addr} {mc : Value} {fd : FuncData} {ps : List Str} {fn : Fn} {ms : List Md} {x m : Str} {gs gk : Ss → OuL} {pl : Sem Bool}
def eCM (c : Nat) (fn : Fn) (ms : List Md) (gs : Ss → OuL) : Ev := fun ρ => (gs ρ).bind fun ts ρ1 => callF fn (.f :: ms) (.v .F (.cls c) :: ts) ρ1
theorem v_cm (eC : C = G.ca c) (rd : ClX.CRead X.K C mc) (cm : ClX.CMet X.K C mc m pq g) (F : FnG X.prog X.w X.K X.mg X.base k g fd ps (spV G n (ioPos 0 (.f :: ms)) fn)) (hr : RoomG k X.A) (tk : L2N.Takes X W) (hm : X.mg x = some (.ref C)) (hb : Binds X.K fd ps []) (ha : PAv X G W ios (e :: es) gs)
    (hn : (Md.f :: ms).length = n := by rfl) (hg : Gl X x := by rfl) (hdb : (x == ("__debug__" : Str)) = false := by decide) (hst : starEach (e :: es) X.env = (false, eval e X.env) :: starEach es X.env := by rfl) (hpl : (backTo pos (starEach es X.env)).any (·.1) = false := by rfl)
    (ht : eval (.Call (.Attribute (.Name x p0) m apos) (e :: es) [] pos) X.env = (do
      let ov ← eval (.Name x p0) X.env
      standAt apos.atName
      let (f, first) ← holding [ov] (getMethod ov m pl)
      callWith pos f first (backTo pos (starEach (e :: es) X.env)) (backToKw pos (keywordEach [] X.env))) := by rfl) :
    PEv X G W ios (.Call (.Attribute (.Name x p0) m apos) (e :: es) [] pos) (eCM c fn ms gs) :=
  pe_imp (pe_cmG (E := WE W) hg hm rd cm F hr hb (L2N.passAt tk) ha hdb hst hpl ht) fun σ H Q q => by
    subst eC
    obtain ⟨pr, io, s, rfl, hi, r, q⟩ := of_tEv q
    refine tEvs_of hi r (OuLP.bindG (Ext.refl s) q fun ts vs s2 o2 r2 x2 p2 f2 q2 => ?_)
    have p1 : Tp G pr σ s (.v .F (.cls c)) (.ref (G.ca c)) [] := ⟨⟨rfl, by simp only [Rep]⟩, .nil, fun a ha => by cases ha⟩
    exact call_read hn r2 x2 (Tps.cons p1 r x2 p2 f2) f2 (fun _ _ _ h => h) q2
def eMakeL (i c : Nat) (fn : Fn) (ms : List Md) (gs gk : Ss → OuL) (dfl : List D) : Ev := fun ρ => match ρ[i]? with
  | some (some (.v .F (.cls c'))) => if c' = c then eMake c fn ms gs gk dfl ρ else .no
  | _ => .no
theorem v_makeL {kws : List Keyword} {ks : List Str} {j : Nat} {gg : List Value → List Value → List Value} {gV : List V → List V → List V} {dfl : List D} {dv : List V} (eC : C = G.ca c) (M : Mk X.K C fa) (F : FnG X.prog X.w X.K X.mg X.base k fa fd ps (spV G n (ioPos 0 (.io :: ms)) fn)) (hr : RoomG (k + 1) X.A) (tk : L2N.Takes X W)
    (hi0 : X.N[i]? = some x) (hv : Vis X.env.scope x) (hb : KBn X.K fd ps (j + 1) ks gg gV) (hg2 : ∀ x vs zs, gV (x :: vs) zs = x :: (vs ++ zs ++ dv)) (hd : ∀ H P, Reps G H P dfl dv) (ha : PAv X G W ios (e :: es) gs) (hkw : PKv X G W ios kws gk) (hj : ∀ ρ ts ρ', gs ρ = .ok ts ρ' → ts.length = j) (hjk : ∀ ρ ts ρ', gk ρ = .ok ts ρ' → ts.length = ks.length)
    (hn : (Md.io :: ms).length = n := by rfl)
    (hall : (backToKw pos (keywordEach kws X.env)).all (·.1.isSome) = true := by rfl) (hks : (backToKw pos (keywordEach kws X.env)).filterMap (·.1) = ks := by rfl) (hdb : (x == ("__debug__" : Str)) = false := by decide) (hcd : (x == ("__classdict__" : Str)) = false := by decide)
    (he : starEach (e :: es) X.env = (false, eval e X.env) :: starEach es X.env := by rfl) (hpl : ((backTo pos (starEach (e :: es) X.env)).any (·.1) || (backToKw pos (keywordEach kws X.env)).any (·.1.isNone)) = false := by rfl) :
    PEv X G W ios (.Call (.Name x p) (e :: es) kws pos) (eMakeL i c fn ms gs gk dfl) :=
  pe_imp (pe_makeL (E := WE W) M F hr hi0 hv hb (L2N.passAt tk) ha hkw hall hks hdb hcd he hpl) fun σ H Q q => by
    subst eC
    obtain ⟨pr, io, s, rfl, hi, r, q⟩ := of_tEv q
    unfold eMakeL at q
    split at q
    · rename_i c' ei
      split at q
      · rename_i ec
        subst ec
        obtain ⟨u, b1, b2, b3, eu, eb, hu, hset⟩ := Sl.get r.sl ei
        have hu2 : u = .ref (G.ca c') := by
          simp only [TmR, Rep] at hu
          exact hu.2
        subst hu2
        refine ⟨eu, ?_⟩
        show tEvs G W ios gs σ s.H _
        have gs1 : ∀ ts ρ', gs s.ρ = .ok ts ρ' → ts.length = j := fun ts ρ' => hj _ ts ρ'
        refine tEvs_of hi r ?_
        unfold eMake at q
        cases eg : gs s.ρ with
        | no => rw [eg] at q; exact q.elim
        | ex e' ρ' => rw [eg] at q; exact q
        | ok ts ρ' =>
          rw [eg] at q
          intro vs s1 o1 e1 r1 x1 p1 f1
          subst e1
          have q := OuP.later (show OuP G W pr io σ s ((gk s1.ρ).bind fun us ρ2 => mkF c' fn ms (ts ++ us ++ dfl.map (Tm.v .F)) ρ2) Q from q) (Ext.refl s)
          refine tEvs_of hi r1 ?_
          cases eg2 : gk s1.ρ with
          | no => rw [eg2] at q; exact q.elim
          | ex e' ρ' => rw [eg2] at q; exact OuP.later (o := .ex e' ρ') (Q := Q) q x1
          | ok us ρ2 =>
            rw [eg2] at q
            intro ws s2 o2 e2 r2 x2 p2 f2
            subst e2
            refine ⟨by rw [← p1.rel.len]; exact gs1 _ _ eg, by rw [← p2.rel.len]; exact hjk _ _ _ eg2, fun x dx hx hdx hne => ?_⟩
            rw [hg2]
            have p12 := Tps.cat p1 r1 x2 p2 f2
            have p3 : Tps G pr σ s2 (ts ++ us ++ dfl.map (Tm.v .F)) (vs ++ ws ++ dv) (o1 ++ o2 ++ []) := Tps.cat p12 r2 (Ext.refl _) ⟨TmTs.dfl (hd _ _), .nil, fun a ha => by cases ha⟩ Frs.nil
            exact mk_read hn r2 (x1.trans x2) p3 ((f1.app (f2.on x1)).app Frs.nil) q hx hdx hne
      · exact q.elim
    · exact q.elim
end
end PV

/-! xs.insert(i, x); a sign not in a text; a text times an int -/
namespace PV
open PySem PySem.Spec L2
section
variable {G : Gx} {W : WX} {pr : Addr → Prop} {io : List (Nat × V)} {σ : L2.St} {s s1 : Sx} {ios : List Nat} {Q : VK} {X : Cx} {a b : Expr} {pos p : Pos} {ga gb : Ev}
def rIns : V → List V → Hp → VK → Prop := fun x vs H Q => ∃ (l : Addr) (xs : List V) (i : Int) (y : V), x = .ref l ∧ vs = [.int i, y] ∧ H l = some (.lst xs) ∧ xs.length < sizeLine ∧ 0 ≤ i ∧ i < 2 ^ 63 ∧
    Q .non (upd H l (.lst (xs.take i.toNat ++ [y] ++ xs.drop i.toNat)))
@[irreducible] def opIns : List D → List D → Option (D × List D) := fun xs ds => match ds with
  | [.int i, d] => if 0 ≤ i ∧ i < 2 ^ 63 then some (.non, xs.take i.toNat ++ [d] ++ xs.drop i.toNat) else none
  | _ => none
theorem opIns_eq (xs : List D) (i : Int) (d : D) : opIns xs [.int i, d] = if 0 ≤ i ∧ i < 2 ^ 63 then some (D.non, xs.take i.toNat ++ [d] ++ xs.drop i.toNat) else none := by
  unfold opIns
  rfl
theorem Reps.twoI {H : Hp} {P : Addr → Prop} {i : Int} {d : D} {dv : List V} (h : Reps G H P [.int i, d] dv) : ∃ v, dv = [.int i, v] ∧ Rep G H P d v := by
  simp only [Reps, Rep] at h
  obtain ⟨v, r, rfl, rfl, w, r2, rfl, h, rfl⟩ := h
  exact ⟨w, rfl, h⟩
theorem lm_ins : LmOk G opIns rIns := fun H P l xs ds xv dv x xs' Q hl hx hd e hz q => by
  unfold opIns at e
  split at e
  · split at e
    · rename_i i d hi
      cases e
      obtain ⟨v, rfl, hv⟩ := hd.twoI
      refine ⟨l, xv, i, v, rfl, rfl, hl, ?_, hi.1, hi.2, q .non _ fun H' P' k1 k2 => ⟨by simp only [Rep], ?_⟩⟩
      · rw [← hx.len]
        rw [List.length_append, List.length_append, List.length_take, List.length_drop, List.length_singleton] at hz
        omega
      · obtain ⟨v', e, hv'⟩ := k2.twoI
        cases e
        refine ((k1.take _).app ?_).app (k1.drop _)
        simp only [Reps]
        exact ⟨v, [], rfl, hv', rfl⟩
    · cases e
  · cases e
theorem mtIns : MtR X "list.insert" rIns := mt_insert
/-- a sign that is not in a text -/
def notInT : D → D → Option D
  | .str c, .str z => match c.cps.toList with
    | [x] => some (.bl (!decide (x ∈ z.cps.toList)))
    | _ => none
  | _, _ => none
def eNotInT : Ev → Ev → Ev := eOp2 (rd2 notInT)
theorem rdNotInT : Rd2 G notInT (fun x y H Q => ∃ (c : Nat) (z : Str), x = .str ⟨#[c]⟩ ∧ y = .str z ∧ Q (.bl (!decide (c ∈ z.cps.toList))) H) := by
  intro H x y dx dy d Q hx hy e q
  cases dx <;> cases dy <;> simp only [notInT, reduceCtorEq] at e
  rename_i c z
  simp only [Rep] at hx hy
  subst hx hy
  split at e
  · rename_i w hw
    cases e
    have hc : c = ⟨#[w]⟩ := by
      cases c with
      | mk cps =>
        have : cps = #[w] := by
          apply Array.toList_inj.mp
          simpa using hw
        rw [this]
    subst hc
    exact ⟨w, z, rfl, rfl, q _ fun P => by simp only [Rep]⟩
  · cases e
theorem t_notInT (ha : PEv X G W ios a ga) (hb : PEv X G W ios b gb) (hm : behindInMarks .NotIn b = false := by rfl) : PTv X G W ios (.Compare a [.NotIn] [b] pos) (eNotInT ga gb) := t_cmp op_notIn_sign (Rd2.op rdNotInT) ha hb hm
/-- a text times an int -/
def repS (z : Str) (n : Nat) : Str := ⟨(List.replicate n z.cps).foldl (· ++ ·) #[]⟩
theorem rep_size (z : Array Nat) : ∀ (n : Nat) (acc : Array Nat), ((List.replicate n z).foldl (· ++ ·) acc).size = acc.size + n * z.size
  | 0, acc => by simp
  | n + 1, acc => by
    rw [List.replicate_succ, List.foldl_cons, rep_size z n, Array.size_append, Nat.add_mul]
    omega
theorem rep_list (z : Array Nat) : ∀ (n : Nat) (acc : Array Nat), ((List.replicate n z).foldl (· ++ ·) acc).toList = acc.toList ++ (List.replicate n z.toList).flatten
  | 0, acc => by simp
  | n + 1, acc => by
    rw [List.replicate_succ, List.foldl_cons, rep_list z n, Array.toList_append, List.replicate_succ, List.flatten_cons, List.append_assoc]
theorem repS_len (z : Str) (n : Nat) : (repS z n).length = n * z.length := by
  show ((List.replicate n z.cps).foldl (· ++ ·) #[]).size = n * z.cps.size
  rw [rep_size]
  simp
def rMulS : R2 := fun x y H Q => ∃ (z : Str) (k : Int), x = .str z ∧ y = .int k ∧ 2 ≤ k ∧ k ≤ 100000 ∧ 0 < z.length ∧ z.length ≤ 100 ∧ Q (.str (repS z k.toNat)) H
theorem op_mulS : OpR X (binaryOp .Mult) rMulS := by
  intro pins s σ H x y v u Q I rx ry h
  obtain ⟨z, k, rfl, rfl, h1, h2, h3, h4, q⟩ := h
  obtain ⟨t, rfl⟩ := rx
  obtain ⟨t', rfl⟩ := ry
  have c1 : ¬ k < 1 := by omega
  have c2 : (k == 1 || z.length == 0) = false := by
    rw [Bool.or_eq_false_iff]
    exact ⟨by simp only [beq_eq_false_iff_ne]; omega, by simp only [beq_eq_false_iff_ne]; omega⟩
  have hsz : z.length * k.toNat ≤ 10000000 := by
    have : z.length * k.toNat ≤ 100 * 100000 := Nat.mul_le_mul h4 (by omega)
    omega
  refine PySem.P.mul_str (by rw [Bool.or_eq_false_iff]; exact ⟨decide_eq_false (by omega), decide_eq_false (by omega)⟩) (fun _ _ => ?_) (fun _ _ => ?_) ?_
  · have : (100 : Int) ≤ (2 ^ 63 - 1) / k := by
      rw [Int.le_ediv_iff_mul_le (by omega)]
      omega
    omega
  · unfold PySem.Builtin.Str.tooLong
    exact decide_eq_false (by rw [sizeLine_eq]; omega)
  · rw [if_neg c1, if_neg (by rw [c2]; exact Bool.false_ne_true)]
    refine ⟨?_, .str (repS z k.toNat), H, I.tok _, ⟨_, rfl⟩, q⟩
    show (repS z k.toNat).length ≤ sizeLine
    rw [repS_len, sizeLine_eq, Nat.mul_comm]
    omega
def mulS : D → D → Option D
  | .str z, .int k => if 2 ≤ k ∧ k ≤ 100000 ∧ 0 < z.length ∧ z.length ≤ 100 then some (.str (repS z k.toNat)) else none
  | _, _ => none
def eMulS : Ev → Ev → Ev := eOp2 (rd2 mulS)
theorem rdMulS : Rd2 G mulS rMulS := by
  intro H x y dx dy d Q hx hy e q
  cases dx <;> cases dy <;> simp only [mulS, reduceCtorEq] at e
  rename_i z k
  simp only [Rep] at hx hy
  subst hx hy
  split at e
  · rename_i hc
    cases e
    exact ⟨z, k, rfl, rfl, hc.1, hc.2.1, hc.2.2.1, hc.2.2.2, q _ fun P => by simp only [Rep]⟩
  · cases e
theorem v_mulS (ha : PEv X G W ios a ga) (hb : PEv X G W ios b gb) : PEv X G W ios (.BinOp a .Mult b pos) (eMulS ga gb) := v_op op_mulS (Rd2.op rdMulS) ha hb
end
end PV

namespace PV
open PySem L2

/-! ### what a denotation answers: a small logic -/
abbrev PX := Er → Ss → Prop
def OuW (o : Ou) (P : Tm → Ss → Prop) (X : PX) : Prop := match o with
  | .ok t ρ => P t ρ
  | .ex e ρ => X e ρ
  | .no => False
def OlW (o : OuL) (P : List Tm → Ss → Prop) (X : PX) : Prop := match o with
  | .ok t ρ => P t ρ
  | .ex e ρ => X e ρ
  | .no => False
def FlW (o : Fl) (N : Ss → Prop) (R : Tm → Ss → Prop) (B C : Ss → Prop) (X : PX) : Prop := match o with
  | .nx ρ => N ρ
  | .rt t ρ => R t ρ
  | .bk ρ => B ρ
  | .ct ρ => C ρ
  | .ex e ρ => X e ρ
  | .no => False
def FoW (o : Fo) (P : Tm → List Tm → Prop) (X : Er → List Tm → Prop) : Prop := match o with
  | .ok t us => P t us
  | .ex e us => X e us
  | .no => False
@[irreducible] def EW (g : Ev) (ρ : Ss) (P : Tm → Ss → Prop) (X : PX) : Prop := OuW (g ρ) P X
@[irreducible] def AW (g : Ss → OuL) (ρ : Ss) (P : List Tm → Ss → Prop) (X : PX) : Prop := OlW (g ρ) P X
@[irreducible] def IW (g : Iv) (ρ : Ss) (P : List Tm → Ss → Prop) (X : PX) : Prop := OlW (g ρ) P X
@[irreducible] def SW (g : Sm) (ρ : Ss) (N : Ss → Prop) (R : Tm → Ss → Prop) (B C : Ss → Prop) (X : PX) : Prop := FlW (g ρ) N R B C X
@[irreducible] def FW (f : Fn) (ts : List Tm) (P : Tm → List Tm → Prop) (X : Er → List Tm → Prop) : Prop := FoW (f ts) P X
abbrev X0 : PX := fun _ _ => False
abbrev XF0 : Er → List Tm → Prop := fun _ _ => False
abbrev NoS : Ss → Prop := fun _ => False
section
variable {ρ : Ss} {P P' : Tm → Ss → Prop} {X X' : PX} {g ga gb gc : Ev} {gs : Ss → OuL} {N N' : Ss → Prop} {R R' : Tm → Ss → Prop} {B C B' C' : Ss → Prop} {t u : Tm} {PL PL' : List Tm → Ss → Prop}
theorem OuW.imp {o : Ou} (h : OuW o P X) (i : ∀ t ρ, P t ρ → P' t ρ) (j : ∀ e ρ, X e ρ → X' e ρ) : OuW o P' X' := by
  cases o with
  | ok t ρ => exact i _ _ h
  | ex e ρ => exact j _ _ h
  | no => exact h
theorem OuW.bind {o : Ou} {k : Tm → Ss → Ou} (h : OuW o (fun t ρ => OuW (k t ρ) P X) X) : OuW (o.bind k) P X := by
  cases o with
  | ok t ρ => exact h
  | ex e ρ => exact h
  | no => exact h
theorem OuW.bindL {o : Ou} {k : Tm → Ss → OuL} (h : OuW o (fun t ρ => OlW (k t ρ) PL X) X) : OlW (o.bindL k) PL X := by
  cases o with
  | ok t ρ => exact h
  | ex e ρ => exact h
  | no => exact h
theorem OlW.bind {o : OuL} {k : List Tm → Ss → Ou} (h : OlW o (fun t ρ => OuW (k t ρ) P X) X) : OuW (o.bind k) P X := by
  cases o with
  | ok t ρ => exact h
  | ex e ρ => exact h
  | no => exact h
theorem OlW.bindL {o : OuL} {k : List Tm → Ss → OuL} (h : OlW o (fun t ρ => OlW (k t ρ) PL X) X) : OlW (o.bindL k) PL X := by
  cases o with
  | ok t ρ => exact h
  | ex e ρ => exact h
  | no => exact h
theorem OuW.toF {o : Ou} {k : Tm → Ss → Fl} (h : OuW o (fun t ρ => FlW (k t ρ) N R B C X) X) : FlW (o.toF k) N R B C X := by
  cases o with
  | ok t ρ => exact h
  | ex e ρ => exact h
  | no => exact h
/-- from and to the plain equation -/
theorem EW.ok {ρ' : Ss} (h : g ρ = .ok t ρ') (p : P t ρ') : EW g ρ P X := by with_unfolding_all (unfold EW; rw [h]; exact p)
theorem EW.get (h : EW g ρ P X0) : ∃ t ρ', g ρ = .ok t ρ' ∧ P t ρ' := by
  with_unfolding_all
    unfold EW at h
    cases e : g ρ with
    | ok t ρ' => rw [e] at h; exact ⟨t, ρ', rfl, h⟩
    | ex e' ρ' => rw [e] at h; exact h.elim
    | no => rw [e] at h; exact h.elim
theorem EW.imp (h : EW g ρ P X) (i : ∀ t ρ, P t ρ → P' t ρ) : EW g ρ P' X := by with_unfolding_all exact (OuW.imp h i fun _ _ h => h)
/-! names and constants -/
theorem EW.c {d : D} (p : P (.v .F d) ρ) : EW (eC d) ρ P X := by with_unfolding_all exact (p)
theorem EW.n (p : P (.v .F .non) ρ) : EW eN ρ P X := by with_unfolding_all exact (p)
theorem EW.z (p : P (.v .F (.int 0)) ρ) : EW eZ ρ P X := by with_unfolding_all exact (p)
theorem EW.tr (p : P (.v .F (.bl true)) ρ) : EW eTrue ρ P X := by with_unfolding_all exact (p)
/-! shared, moved -/
/-- what eF makes of a value in flight -/
@[irreducible] def FzW (t : Tm) (ρ : Ss) (P : Tm → Ss → Prop) : Prop := OuW (eF1 t ρ) P X0
theorem OuW.x0 {o : Ou} (h : OuW o P X0) : OuW o P X := OuW.imp h (fun _ _ h => h) fun _ _ h => h.elim
theorem EW.fz (h : EW g ρ (fun t ρ1 => FzW t ρ1 P) X) : EW (eF g) ρ P X := by
  with_unfolding_all
    unfold EW
    rw [ef_eq]
    exact OuW.bind (OuW.imp h (fun _ _ h => h.x0) fun _ _ h => h)
theorem FzW.F {d : D} (p : P (.v .F d) ρ) : FzW (.v .F d) ρ P := by with_unfolding_all (unfold FzW; rw [ef1_F]; exact p)
theorem FzW.O {d : D} (p : P (.v .F d) ρ) : FzW (.v .O d) ρ P := by with_unfolding_all (unfold FzW; rw [ef1_O]; exact p)
theorem FzW.Bx {d : D} (hf : flat d = true) (p : P (.v .F d) ρ) : FzW (.v .B d) ρ P := by
  with_unfolding_all
    unfold FzW eF1
    simp only [frz_B, hf, if_true]
    exact p
theorem FzW.loc {i : Nat} {d : D} {ρ' : Ss} (h : ρ[i]? = some (some (.v .O d))) (hs : ρ.set i (some (.v .F d)) = ρ') (p : P (.v .F d) ρ') : FzW (.loc i) ρ P := by
  with_unfolding_all
    unfold FzW eF1
    subst hs
    simp only [h, frz_O]
    exact p
@[irreducible] def MvW (t : Tm) (ρ : Ss) (P : Tm → Ss → Prop) : Prop := OuW (eM1 t ρ) P X0
theorem EW.mv (h : EW g ρ (fun t ρ1 => MvW t ρ1 P) X) : EW (eM g) ρ P X := by
  with_unfolding_all
    unfold EW
    rw [em_eq]
    exact OuW.bind (OuW.imp h (fun _ _ h => h.x0) fun _ _ h => h)
theorem MvW.v {k : Kd} {d : D} (p : P (.v k d) ρ) : MvW (.v k d) ρ P := by with_unfolding_all exact (p)
theorem MvW.loc {i : Nat} {t0 : Tm} {ρ' : Ss} (h : ρ[i]? = some (some t0)) (hs : ρ.set i none = ρ') (p : P t0 ρ') : MvW (.loc i) ρ P := by
  with_unfolding_all
    unfold MvW eM1
    subst hs
    simp only [h]
    exact p

/-! the data behind a term -/
def Is (ρ : Ss) (t : Tm) (k : Kd) (d : D) : Prop := derT ρ t = some (.v k d)
theorem Is.v {k : Kd} {d : D} : Is ρ (.v k d) k d := rfl
theorem Is.loc {i : Nat} {k : Kd} {d : D} (h : ρ[i]? = some (some (.v k d))) : Is ρ (.loc i) k d := by simp only [Is, derT, h]
def O1W (f : Tm → Option Tm) (t : Tm) (ρ : Ss) (P : Tm → Ss → Prop) : Prop := ∃ x r, derT ρ t = some x ∧ f x = some r ∧ P r ρ
def O2W (f : Tm → Tm → Option Tm) (t u : Tm) (ρ : Ss) (P : Tm → Ss → Prop) : Prop := ∃ x y r, derT ρ t = some x ∧ derT ρ u = some y ∧ f x y = some r ∧ P r ρ
theorem EW.op1 {f : Tm → Option Tm} (h : EW g ρ (fun t ρ1 => O1W f t ρ1 P) X) : EW (eOp1 f g) ρ P X := by
  with_unfolding_all
    unfold EW
    rw [op1_eq]
    refine OuW.bind (OuW.imp h (fun t ρ1 h => ?_) fun _ _ h => h)
    obtain ⟨x, r, h1, h2, h3⟩ := h
    rw [h1, Option.bind_some, h2]
    exact h3
theorem EW.op2 {f : Tm → Tm → Option Tm} (h : EW ga ρ (fun t ρ1 => EW gb ρ1 (fun u ρ2 => O2W f t u ρ2 P) X) X) : EW (eOp2 f ga gb) ρ P X := by
  with_unfolding_all
    unfold EW
    rw [op2_eq]
    refine OuW.bind (OuW.imp h (fun t ρ1 h => OuW.bind (OuW.imp h (fun u ρ2 h => ?_) fun _ _ h => h)) fun _ _ h => h)
    obtain ⟨x, y, r, h1, h2, h3, h4⟩ := h
    rw [h1, h2, Option.bind_some, Option.bind_some, h3]
    exact h4
theorem rd1_is {f : D → Option D} {d r : D} {k : Kd} (ht : Is ρ t k d) (h : f d = some r) (p : P (.v .F r) ρ) : O1W (rd1 f) t ρ P := ⟨_, _, ht, by simp only [rd1, toD_v, h, Option.map_some], p⟩
theorem rd2_is {f : D → D → Option D} {d e r : D} {k l : Kd} (ht : Is ρ t k d) (hu : Is ρ u l e) (h : f d e = some r) (p : P (.v .F r) ρ) : O2W (rd2 f) t u ρ P := ⟨_, _, _, ht, hu, by simp only [rd2, toD_v, h, Option.map_some], p⟩
/-- two ints -/
def IIW (t u : Tm) (ρ : Ss) (K : Int → Int → Prop) : Prop := ∃ i j k l, Is ρ t k (.int i) ∧ Is ρ u l (.int j) ∧ K i j
theorem IIW.go {i j : Int} {k l : Kd} {K : Int → Int → Prop} (h1 : Is ρ t k (.int i)) (h2 : Is ρ u l (.int j)) (h : K i j) : IIW t u ρ K := ⟨i, j, k, l, h1, h2, h⟩
def I1W (t : Tm) (ρ : Ss) (K : Int → Prop) : Prop := ∃ i k, Is ρ t k (.int i) ∧ K i
theorem I1W.go {i : Int} {k : Kd} {K : Int → Prop} (h1 : Is ρ t k (.int i)) (h : K i) : I1W t ρ K := ⟨i, k, h1, h⟩
theorem ii_op {f : Int → Int → Option Int} {r : Int → Int → Int} (h : IIW t u ρ fun i j => f i j = some (r i j) ∧ P (.v .F (.int (r i j))) ρ) : O2W (rd2 (dI2 f)) t u ρ P := by
  obtain ⟨i, j, k, l, h1, h2, h3, h4⟩ := h
  exact rd2_is h1 h2 (by simp only [dI2, h3, Option.map_some]) h4
theorem ii_cmp {f : Int → Int → Bool} (h : IIW t u ρ fun i j => P (.v .F (.bl (f i j))) ρ) : O2W (rd2 (dC2 f)) t u ρ P := by
  obtain ⟨i, j, k, l, h1, h2, h3⟩ := h
  exact rd2_is h1 h2 rfl h3
abbrev E2W (ga gb : Ev) (ρ : Ss) (X : PX) (K : Tm → Tm → Ss → Prop) : Prop := EW ga ρ (fun t ρ1 => EW gb ρ1 (fun u ρ2 => K t u ρ2) X) X
theorem E2W.imp {K K' : Tm → Tm → Ss → Prop} (h : E2W ga gb ρ X K) (i : ∀ t u ρ, K t u ρ → K' t u ρ) : E2W ga gb ρ X K' := by with_unfolding_all exact (EW.imp h fun _ _ h => EW.imp h fun _ _ h => i _ _ _ h)
theorem EW.sub (h : EW ga ρ (fun t ρ1 => EW gb ρ1 (fun u ρ2 => IIW t u ρ2 fun i j => P (.v .F (.int (i - j))) ρ2) X) X) : EW (eSub ga gb) ρ P X := by with_unfolding_all exact (EW.op2 (E2W.imp h fun t u ρ h => ii_op (r := fun i j => i - j) (by obtain ⟨i, j, k, l, h1, h2, h3⟩ := h; exact ⟨i, j, k, l, h1, h2, rfl, h3⟩)))
theorem EW.mod (h : EW ga ρ (fun t ρ1 => EW gb ρ1 (fun u ρ2 => IIW t u ρ2 fun i j => 0 < j ∧ P (.v .F (.int (i % j))) ρ2) X) X) : EW (eMod ga gb) ρ P X := by with_unfolding_all exact (EW.op2 (E2W.imp h fun t u ρ h => ii_op (r := fun i j => i % j) (by obtain ⟨i, j, k, l, h1, h2, h3, h4⟩ := h; exact ⟨i, j, k, l, h1, h2, by unfold modI; rw [if_pos h3], h4⟩)))
theorem EW.div (h : EW ga ρ (fun t ρ1 => EW gb ρ1 (fun u ρ2 => IIW t u ρ2 fun i j => (0 < j ∧ j < 1073741824) ∧ P (.v .F (.int (i / j))) ρ2) X) X) : EW (eDiv ga gb) ρ P X := by with_unfolding_all exact (EW.op2 (E2W.imp h fun t u ρ h => ii_op (r := fun i j => i / j) (by obtain ⟨i, j, k, l, h1, h2, h3, h4⟩ := h; exact ⟨i, j, k, l, h1, h2, by unfold divI; rw [if_pos h3], h4⟩)))
theorem EW.max2 (h : EW ga ρ (fun t ρ1 => EW gb ρ1 (fun u ρ2 => IIW t u ρ2 fun i j => P (.v .F (.int (max i j))) ρ2) X) X) : EW (eMax2 ga gb) ρ P X := by with_unfolding_all exact (EW.op2 (E2W.imp h fun t u ρ h => ii_op (r := fun i j => max i j) (by obtain ⟨i, j, k, l, h1, h2, h3⟩ := h; exact ⟨i, j, k, l, h1, h2, by congr 1; split <;> omega, h3⟩)))
theorem EW.min2 (h : EW ga ρ (fun t ρ1 => EW gb ρ1 (fun u ρ2 => IIW t u ρ2 fun i j => P (.v .F (.int (min i j))) ρ2) X) X) : EW (eMin2 ga gb) ρ P X := by with_unfolding_all exact (EW.op2 (E2W.imp h fun t u ρ h => ii_op (r := fun i j => min i j) (by obtain ⟨i, j, k, l, h1, h2, h3⟩ := h; exact ⟨i, j, k, l, h1, h2, by congr 1; split <;> omega, h3⟩)))
theorem EW.lt (h : EW ga ρ (fun t ρ1 => EW gb ρ1 (fun u ρ2 => IIW t u ρ2 fun i j => P (.v .F (.bl (decide (i < j)))) ρ2) X) X) : EW (eLt ga gb) ρ P X := by with_unfolding_all exact (EW.op2 (E2W.imp h fun _ _ _ h => ii_cmp h))
theorem EW.gt (h : EW ga ρ (fun t ρ1 => EW gb ρ1 (fun u ρ2 => IIW t u ρ2 fun i j => P (.v .F (.bl (decide (j < i)))) ρ2) X) X) : EW (eGt ga gb) ρ P X := by with_unfolding_all exact (EW.op2 (E2W.imp h fun _ _ _ h => ii_cmp h))
/-- the sums: ints, texts, lists, tuples -/
def AddW (t u : Tm) (ρ : Ss) (P : Tm → Ss → Prop) : Prop := O2W opAdd t u ρ P
theorem EW.add (h : EW ga ρ (fun t ρ1 => EW gb ρ1 (fun u ρ2 => AddW t u ρ2 P) X) X) : EW (eAdd ga gb) ρ P X := by with_unfolding_all exact (EW.op2 h)
theorem AddW.ii {i j : Int} {k l : Kd} (h1 : Is ρ t k (.int i)) (h2 : Is ρ u l (.int j)) (p : P (.v .F (.int (i + j))) ρ) : AddW t u ρ P := ⟨_, _, _, h1, h2, rfl, p⟩
def MulW (t u : Tm) (ρ : Ss) (P : Tm → Ss → Prop) : Prop := O2W opMul t u ρ P
theorem EW.mul (h : EW ga ρ (fun t ρ1 => EW gb ρ1 (fun u ρ2 => MulW t u ρ2 P) X) X) : EW (eMul ga gb) ρ P X := by with_unfolding_all exact (EW.op2 h)
theorem MulW.ii {i j : Int} {k l : Kd} (h1 : Is ρ t k (.int i)) (h2 : Is ρ u l (.int j)) (hb : (-18446744073709551616 < i ∧ i < 18446744073709551616) ∨ (-18446744073709551616 < j ∧ j < 18446744073709551616)) (p : P (.v .F (.int (i * j))) ρ) : MulW t u ρ P := by
  have hb : (-(2 ^ 64) < i ∧ i < 2 ^ 64) ∨ (-(2 ^ 64) < j ∧ j < 2 ^ 64) := hb
  exact ⟨_, _, _, h1, h2, by simp only [opMul, mulV, mulI, if_pos hb, Option.map_some], p⟩

/-! arguments -/
theorem AW.nil (p : PL [] ρ) : AW gNil ρ PL X := by with_unfolding_all exact (p)
theorem AW.cons (h : EW g ρ (fun t ρ1 => AW gs ρ1 (fun ts ρ2 => PL (t :: ts) ρ2) X) X) : AW (gCons g gs) ρ PL X := by
  with_unfolding_all
    unfold AW
    rw [gcons_eq]
    exact OuW.bindL (OuW.imp h (fun _ _ h => OlW.bindL h) fun _ _ h => h)
def FzsW (ts : List Tm) (K : List D → Prop) : Prop := ∃ ds, frzs ts = some ds ∧ K ds
theorem FzsW.nil {K : List D → Prop} (h : K []) : FzsW [] K := ⟨[], frzs_nil, h⟩
theorem FzsW.F {K : List D → Prop} {d : D} {ts : List Tm} (h : FzsW ts fun ds => K (d :: ds)) : FzsW (.v .F d :: ts) K := by
  obtain ⟨ds, e, h⟩ := h
  exact ⟨d :: ds, by simp only [frzs_cons, frz_F, e, Option.bind_some, Option.map_some], h⟩
theorem FzsW.O {K : List D → Prop} {d : D} {ts : List Tm} (h : FzsW ts fun ds => K (d :: ds)) : FzsW (.v .O d :: ts) K := by
  obtain ⟨ds, e, h⟩ := h
  exact ⟨d :: ds, by simp only [frzs_cons, frz_O, e, Option.bind_some, Option.map_some], h⟩
theorem OlW.imp {o : OuL} (h : OlW o PL X) (i : ∀ t ρ, PL t ρ → PL' t ρ) : OlW o PL' X := by
  cases o with
  | ok t ρ => exact i _ _ h
  | ex e ρ => exact h
  | no => exact h
theorem EW.tup (h : AW gs ρ (fun ts ρ1 => FzsW ts fun ds => ds.length ≤ sizeLine ∧ P (.v .F (.tup ds)) ρ1) X) : EW (eTup gs) ρ P X := by
  with_unfolding_all
    unfold EW
    rw [etup_eq]
    refine OlW.bind (OlW.imp h fun ts ρ1 h => ?_)
    obtain ⟨ds, e, hl, p⟩ := h
    simp only [e, if_pos hl]
    exact p
theorem EW.lst (h : AW gs ρ (fun ts ρ1 => FzsW ts fun ds => ds.length ≤ sizeLine ∧ P (.v .O (.lst ds)) ρ1) X) : EW (eLst gs) ρ P X := by
  with_unfolding_all
    unfold EW
    rw [elst_eq]
    refine OlW.bind (OlW.imp h fun ts ρ1 h => ?_)
    obtain ⟨ds, e, hl, p⟩ := h
    simp only [e, if_pos hl]
    exact p
/-! statements -/
theorem SW.seq {g1 g2 : Sm} (h : SW g1 ρ (fun ρ1 => SW g2 ρ1 N R B C X) R B C X) : SW (sSeq g1 g2) ρ N R B C X := by
  with_unfolding_all
    unfold SW at h ⊢
    rw [seq_eq]
    cases e : g1 ρ <;> rw [e] at h <;> exact h
theorem SW.imp {g1 : Sm} (h : SW g1 ρ N R B C X) (i : ∀ ρ, N ρ → N' ρ) : SW g1 ρ N' R B C X := by
  with_unfolding_all
    unfold SW at h ⊢
    cases e : g1 ρ <;> rw [e] at h <;> first | exact i _ h | exact h
theorem SW.nil (h : N ρ) : SW sNil ρ N R B C X := by with_unfolding_all exact (h)
theorem SW.brk (h : B ρ) : SW sBreak ρ N R B C X := by with_unfolding_all exact (h)
theorem SW.ret (h : EW g ρ R X) : SW (sRet g) ρ N R B C X := by with_unfolding_all exact (OuW.toF (OuW.imp h (fun _ _ h => h) fun _ _ h => h))
theorem SW.expr (h : EW g ρ (fun _ ρ1 => N ρ1) X) : SW (sExpr g) ρ N R B C X := by with_unfolding_all exact (OuW.toF (OuW.imp h (fun _ _ h => h) fun _ _ h => h))
theorem SW.set {i : Nat} (h : EW g ρ (fun t ρ1 => isLoc t = false ∧ i < ρ1.length ∧ ∃ ρ2, ρ1.set i (some t) = ρ2 ∧ N ρ2) X) : SW (sSet i g) ρ N R B C X := by
  with_unfolding_all
    unfold SW
    rw [sset_eq]
    refine OuW.toF (OuW.imp h (fun t ρ1 h => ?_) fun _ _ h => h)
    obtain ⟨h1, h2, _, rfl, h3⟩ := h
    rw [if_pos ⟨h1, h2⟩]
    exact h3
/-- a test's two ways -/
def BoW (t : Tm) (T F : Prop) : Prop := ∃ b, asB t = some b ∧ (b = true → T) ∧ (b = false → F)
theorem BoW.tt {k : Kd} {T F : Prop} (h : T) : BoW (.v k (.bl true)) T F := ⟨true, rfl, fun _ => h, fun z => by cases z⟩
theorem BoW.ff {k : Kd} {T F : Prop} (h : F) : BoW (.v k (.bl false)) T F := ⟨false, rfl, fun z => by (cases z), fun _ => h⟩
theorem BoW.d {k : Kd} {T F : Prop} {p : Prop} [Decidable p] (h1 : p → T) (h2 : ¬ p → F) : BoW (.v k (.bl (decide p))) T F := ⟨_, rfl, fun z => h1 (of_decide_eq_true z), fun z => h2 (of_decide_eq_false z)⟩
theorem BoW.b {k : Kd} {T F : Prop} {b : Bool} (h1 : b = true → T) (h2 : b = false → F) : BoW (.v k (.bl b)) T F := ⟨_, rfl, h1, h2⟩
theorem BoW.of {t : Tm} {T F : Prop} (h : BoW t T F) : ∃ b, asB t = some b ∧ (if b = true then T else F) := by
  obtain ⟨b, e, h1, h2⟩ := h
  refine ⟨b, e, ?_⟩
  cases b with
  | true => exact h1 rfl
  | false => exact h2 rfl
theorem SW.ite {g1 g2 : Sm} (h : EW gc ρ (fun t ρ1 => BoW t (SW g1 ρ1 N R B C X) (SW g2 ρ1 N R B C X)) X) : SW (sIf gc g1 g2) ρ N R B C X := by
  with_unfolding_all
    unfold SW
    rw [sif_eq]
    refine OuW.toF (OuW.imp h (fun t ρ1 h => ?_) fun _ _ h => h)
    obtain ⟨b, e, h⟩ := h.of
    rw [e, iteT_some]
    cases b <;> exact h
theorem EW.ifx (h : EW gc ρ (fun t ρ1 => BoW t (EW ga ρ1 P X) (EW gb ρ1 P X)) X) : EW (eIf gc ga gb) ρ P X := by
  with_unfolding_all
    unfold EW
    rw [eif_eq]
    refine OuW.bind (OuW.imp h (fun t ρ1 h => ?_) fun _ _ h => h)
    obtain ⟨b, e, h⟩ := h.of
    rw [e, iteT_some]
    cases b <;> exact h
theorem EW.and (h : EW ga ρ (fun t ρ1 => BoW t (EW gb ρ1 P X) (P (.v .F (.bl false)) ρ1)) X) : EW (eAnd ga gb) ρ P X := by
  with_unfolding_all
    unfold EW
    rw [eand_eq]
    refine OuW.bind (OuW.imp h (fun t ρ1 h => ?_) fun _ _ h => h)
    obtain ⟨b, e, h⟩ := h.of
    rw [e, iteT_some]
    cases b <;> exact h
theorem EW.or (h : EW ga ρ (fun t ρ1 => BoW t (P (.v .F (.bl true)) ρ1) (EW gb ρ1 P X)) X) : EW (eOr ga gb) ρ P X := by
  with_unfolding_all
    unfold EW
    rw [eor_eq]
    refine OuW.bind (OuW.imp h (fun t ρ1 h => ?_) fun _ _ h => h)
    obtain ⟨b, e, h⟩ := h.of
    rw [e, iteT_some]
    cases b <;> exact h
def NotW (t : Tm) (ρ : Ss) (P : Tm → Ss → Prop) : Prop := ∃ b, asB t = some b ∧ P (.v .F (.bl (!b))) ρ
theorem EW.not (h : EW g ρ (fun t ρ1 => NotW t ρ1 P) X) : EW (eNot g) ρ P X := by
  with_unfolding_all
    unfold EW
    rw [enot_eq]
    refine OuW.bind (OuW.imp h (fun t ρ1 h => ?_) fun _ _ h => h)
    obtain ⟨b, e, h⟩ := h
    rw [e]
    exact h
theorem NotW.b {k : Kd} {b : Bool} (h : P (.v .F (.bl (!b))) ρ) : NotW (.v k (.bl b)) ρ P := ⟨b, rfl, h⟩
theorem NotW.d {k : Kd} {p : Prop} [Decidable p] (h : P (.v .F (.bl (decide (¬ p)))) ρ) : NotW (.v k (.bl (decide p))) ρ P := ⟨_, rfl, by rw [← decide_not]; exact h⟩

/-! targets, loops -/
def TW (tg : Tg) (t : Tm) (ρ : Ss) (N : Ss → Prop) : Prop := ∃ ρ1, tg t ρ = some ρ1 ∧ N ρ1
def TsW (tg : Tgs) (ts : List Tm) (ρ : Ss) (N : Ss → Prop) : Prop := ∃ ρ1, tg ts ρ = some ρ1 ∧ N ρ1
theorem TW.n {i : Nat} {ρ2 : Ss} (h1 : isLoc t = false) (h2 : i < ρ.length) (h3 : ρ.set i (some t) = ρ2) (h : N ρ2) : TW (tgN i) t ρ N := ⟨_, by rw [tgN_eq, if_pos ⟨h1, h2⟩, h3], h⟩
theorem TsW.nil (h : N ρ) : TsW tgsNil [] ρ N := ⟨_, rfl, h⟩
theorem TsW.cons {tg : Tg} {tgs : Tgs} {ts : List Tm} (h : TW tg t ρ fun ρ1 => TsW tgs ts ρ1 N) : TsW (tgsCons tg tgs) (t :: ts) ρ N := by
  obtain ⟨ρ1, e, ρ2, e2, h⟩ := h
  exact ⟨ρ2, by rw [tgsCons_eq, e]; exact e2, h⟩
theorem TW.tp {tgs : Tgs} {ts : List Tm} (h : TsW tgs ts ρ N) : TW (tgTup tgs) (.tp ts) ρ N := h
theorem SW.asg {tg : Tg} (h : EW g ρ (fun t ρ1 => TW tg t ρ1 N) X) : SW (sAsg tg g) ρ N R B C X := by
  with_unfolding_all
    unfold SW
    rw [sasg_eq]
    refine OuW.toF (OuW.imp h (fun t ρ1 h => ?_) fun _ _ h => h)
    obtain ⟨ρ2, e, h⟩ := h
    rw [e]
    exact h
def ItsW (t : Tm) (K : List Tm → Prop) : Prop := ∃ ts, itemsT t = some ts ∧ K ts
theorem ItsW.lstF {xs : List D} {K : List Tm → Prop} (h : K (xs.map (Tm.v .F))) : ItsW (.v .F (.lst xs)) K := ⟨_, rfl, h⟩
theorem ItsW.tupF {xs : List D} {K : List Tm → Prop} (h : K (xs.map (Tm.v .F))) : ItsW (.v .F (.tup xs)) K := ⟨_, rfl, h⟩
theorem ItsW.lstB {xs : List D} {K : List Tm → Prop} (h : K (xs.map (Tm.v .B))) : ItsW (.v .B (.lst xs)) K := ⟨_, rfl, h⟩
theorem ItsW.tupB {xs : List D} {K : List Tm → Prop} (h : K (xs.map (Tm.v .B))) : ItsW (.v .B (.tup xs)) K := ⟨_, rfl, h⟩
theorem ItsW.lstO {xs : List D} {K : List Tm → Prop} (h : K (xs.map (Tm.v .F))) : ItsW (.v .O (.lst xs)) K := ⟨_, rfl, h⟩
theorem IW.seq (h : EW g ρ (fun t ρ1 => ItsW t fun ts => PL ts ρ1) X) : IW (itSeq g) ρ PL X := by
  with_unfolding_all
    unfold IW itSeq
    refine OuW.bindL (OuW.imp h (fun t ρ1 h => ?_) fun _ _ h => h)
    obtain ⟨ts, e, h⟩ := h
    rw [e]
    exact h
def R1W (t : Tm) (K : Int → Prop) : Prop := ∃ j, asI t = some j ∧ (-(2 ^ 62) ≤ j ∧ j < 2 ^ 62) ∧ K j
theorem R1W.go {k : Kd} {j : Int} {K : Int → Prop} (hb : -4611686018427387904 ≤ j ∧ j < 4611686018427387904) (h : K j) : R1W (.v k (.int j)) K := ⟨j, rfl, by exact hb, h⟩
theorem IW.r1 (h : EW g ρ (fun t ρ1 => R1W t fun j => PL (rngL 0 j.toNat) ρ1) X) : IW (itR1 g) ρ PL X := by
  with_unfolding_all
    unfold IW itR1
    refine OuW.bindL (OuW.imp h (fun t ρ1 h => ?_) fun _ _ h => h)
    obtain ⟨j, e, hb, h⟩ := h
    rw [e]
    dsimp only
    rw [if_pos hb]
    exact h
@[irreducible] def ForW (tg : Tg) (body : Sm) (ts : List Tm) (ρ : Ss) (N : Ss → Prop) (R : Tm → Ss → Prop) (X : PX) : Prop := FlW (forL tg body ts ρ) N R NoS NoS X
theorem SW.for {it : Iv} {tg : Tg} {body : Sm} (h : IW it ρ (fun ts ρ1 => ForW tg body ts ρ1 N R X) X) : SW (sFor it tg body) ρ N R B C X := by
  with_unfolding_all
    unfold SW sFor
    unfold IW at h
    cases e : it ρ with
    | ok ts ρ1 =>
      rw [e] at h
      dsimp only
      have h : ForW tg body ts ρ1 N R X := h
      unfold ForW at h
      cases e2 : forL tg body ts ρ1 <;> rw [e2] at h <;> first | exact h | exact h.elim
    | ex e' ρ1 => rw [e] at h; exact h
    | no => rw [e] at h; exact h
theorem ForW.nil {tg : Tg} {body : Sm} (h : N ρ) : ForW tg body [] ρ N R X := by with_unfolding_all exact (h)
theorem ForW.cons {tg : Tg} {body : Sm} {ts : List Tm} (h : TW tg t ρ fun ρ1 => SW body ρ1 (fun ρ2 => ForW tg body ts ρ2 N R X) R N (fun ρ2 => ForW tg body ts ρ2 N R X) X) : ForW tg body (t :: ts) ρ N R X := by
  with_unfolding_all
    obtain ⟨ρ1, e, h⟩ := h
    unfold ForW
    unfold SW at h
    simp only [forL, e]
    cases e2 : body ρ1 <;> rw [e2] at h <;> exact h
/-- a loop by what holds after each item -/
theorem ForW.inv {α : Type} {inj : α → Tm} {tg : Tg} {body : Sm} (I : List α → Ss → Prop) : ∀ (xs : List α) (pre : List α) {ρ : Ss}, I pre ρ →
    (∀ a p x q ρ, a = pre ++ xs → a = p ++ x :: q → I p ρ → TW tg (inj x) ρ fun ρ1 => SW body ρ1 (fun ρ2 => I (p ++ [x]) ρ2) R N (fun ρ2 => I (p ++ [x]) ρ2) X) → (∀ ρ, I (pre ++ xs) ρ → N ρ) → ForW tg body (xs.map inj) ρ N R X
  | [], pre, ρ, h0, hs, he => by with_unfolding_all exact (he ρ (by rw [List.append_nil]; exact h0))
  | x :: xs, pre, ρ, h0, hs, he => by
    with_unfolding_all
      refine ForW.cons ?_
      obtain ⟨ρ1, e1, h1⟩ := hs _ pre x xs ρ rfl rfl h0
      refine ⟨ρ1, e1, ?_⟩
      have go : ∀ ρ2, I (pre ++ [x]) ρ2 → ForW tg body (xs.map inj) ρ2 N R X := fun ρ2 h2 => ForW.inv I xs (pre ++ [x]) h2 (fun a p y q ρ ha hp => hs a p y q ρ (by rw [ha, List.append_assoc]; rfl) hp) (fun ρ h => he ρ (by rw [List.append_assoc] at h; exact h))
      unfold SW at h1
      show FlW (body ρ1) _ _ _ _ _
      cases e2 : body ρ1 <;> rw [e2] at h1 <;> first | exact go _ h1 | exact h1
/-- by the number of items done -/
theorem ForW.num {tg : Tg} {body : Sm} (I : Nat → Ss → Prop) : ∀ (ts : List Tm) (n : Nat) {ρ : Ss}, I n ρ →
    (∀ i t ρ, ts[i]? = some t → I (n + i) ρ → TW tg t ρ fun ρ1 => SW body ρ1 (fun ρ2 => I (n + i + 1) ρ2) R N (fun ρ2 => I (n + i + 1) ρ2) X) → (∀ ρ, I (n + ts.length) ρ → N ρ) → ForW tg body ts ρ N R X
  | [], n, ρ, h0, hs, he => by with_unfolding_all exact (he ρ h0)
  | t :: ts, n, ρ, h0, hs, he => by
    with_unfolding_all
      refine ForW.cons ?_
      obtain ⟨ρ1, e1, h1⟩ := hs 0 t ρ rfl h0
      refine ⟨ρ1, e1, ?_⟩
      have go : ∀ ρ2, I (n + 1) ρ2 → ForW tg body ts ρ2 N R X := fun ρ2 h2 => ForW.num I ts (n + 1) h2 (fun i u ρ hu hI => by
        have := hs (i + 1) u ρ (by simpa using hu) (by rw [show n + (i + 1) = n + 1 + i by omega]; exact hI)
        rw [show n + (i + 1) + 1 = n + 1 + i + 1 by omega] at this
        exact this) (fun ρ h => he ρ (by rw [List.length_cons, show n + (ts.length + 1) = n + 1 + ts.length by omega]; exact h))
      unfold SW at h1
      show FlW (body ρ1) _ _ _ _ _
      cases e2 : body ρ1 <;> rw [e2] at h1 <;> first | exact go _ h1 | exact h1
end
/-! comprehensions -/
section
variable {ρ : Ss} {P P' : Tm → Ss → Prop} {X X' : PX} {test elt : Ev} {tg : Tg} {vs : List Nat} {it : Iv}
def CoW (tg : Tg) (test elt : Ev) (vs : List Nat) (ts : List Tm) (ρ : Ss) (K : List D → Ss → Prop) : Prop := ∃ ds ρ', compL tg test elt vs ts ρ = some (ds, ρ') ∧ K ds ρ'
theorem EW.comp (h : IW it ρ (fun ts ρ1 => vs.all (hideOk ρ1) = true ∧ CoW tg test elt vs ts ρ1 fun ds ρ2 => ds.length ≤ sizeLine ∧ ∃ ρ3, restS ρ1 ρ2 vs = ρ3 ∧ P (.v .O (.lst ds)) ρ3) X) : EW (eComp it vs tg test elt) ρ P X := by
  with_unfolding_all
    unfold EW eComp
    unfold IW at h
    cases e : it ρ with
    | ok ts ρ1 =>
      rw [e] at h
      obtain ⟨h1, ds, ρ2, h2, h3, _, rfl, h4⟩ := h
      dsimp only
      rw [if_pos h1, h2]
      dsimp only
      rw [if_pos h3]
      exact h4
    | ex e' ρ1 => rw [e] at h; exact h
    | no => rw [e] at h; exact h
theorem CoW.nil {K : List D → Ss → Prop} {ρ1 : Ss} (hw : wipeS ρ vs = ρ1) (h : K [] ρ1) : CoW tg test elt vs [] ρ K := ⟨[], _, by simp only [compL, hw], h⟩
def FzD (t : Tm) (K : D → Prop) : Prop := ∃ d, frz t = some d ∧ K d
theorem FzD.F {d : D} {K : D → Prop} (h : K d) : FzD (.v .F d) K := ⟨d, frz_F, h⟩
theorem FzD.O {d : D} {K : D → Prop} (h : K d) : FzD (.v .O d) K := ⟨d, frz_O, h⟩
theorem FzD.Bx {d : D} {K : D → Prop} (hf : flat d = true) (h : K d) : FzD (.v .B d) K := ⟨d, by simp only [frz_B, hf, if_true], h⟩
theorem CoW.cons {K : List D → Ss → Prop} {t : Tm} {ts : List Tm} {ρ1 : Ss} (hw : wipeS ρ vs = ρ1)
    (h : TW tg t ρ1 fun ρ2 => EW test ρ2 (fun b ρ3 => BoW b (EW elt ρ3 (fun x ρ4 => FzD x fun d => CoW tg test elt vs ts ρ4 fun ds ρ5 => K (d :: ds) ρ5) X0) (CoW tg test elt vs ts ρ3 K)) X0) : CoW tg test elt vs (t :: ts) ρ K := by
  with_unfolding_all
    obtain ⟨ρ2, e2, h⟩ := h
    obtain ⟨b, ρ3, e3, h⟩ := EW.get h
    obtain ⟨bb, eb, h⟩ := h.of
    subst hw
    cases bb with
    | true =>
      obtain ⟨x, ρ4, e4, d, e5, ds, ρ5, e6, h⟩ := EW.get h
      exact ⟨d :: ds, ρ5, by simp only [compL, e2, e3, eb, e4, e5, e6], h⟩
    | false =>
      obtain ⟨ds, ρ5, e6, h⟩ := h
      exact ⟨ds, ρ5, by simp only [compL, e2, e3, eb, e6], h⟩
end
end PV

namespace PV
open PySem L2
theorem ltL {i l : Nat} (h : Nat.blt i l = true) : i < l := by simpa [Nat.blt_eq] using h
theorem ix0 {n : Nat} (h : Nat.blt 0 n = true) : ixN n 0 = some 0 := by
  have := ltL h
  unfold ixN
  rw [if_pos (by omega), if_pos (by omega)]
  rfl
theorem ix1 {n : Nat} (h : Nat.blt 1 n = true) : ixN n 1 = some 1 := by
  have := ltL h
  unfold ixN
  rw [if_pos (by omega), if_pos (by omega)]
  rfl
theorem set_z {α : Type} {a v : α} {l : List α} : (a :: l).set 0 v = v :: l := rfl
theorem set_s {α : Type} {a v : α} {l l' : List α} {n : Nat} (h : l.set n v = l') : (a :: l).set (n + 1) v = a :: l' := by rw [List.set_cons_succ, h]
theorem and3 {a b : Prop} {x : Ss} {N : Ss → Prop} {ρ2 : Ss} (h1 : a) (h2 : b) (h3 : x = ρ2) (h : N ρ2) : a ∧ b ∧ ∃ ρ2, x = ρ2 ∧ N ρ2 := ⟨h1, h2, _, h3, h⟩
section
variable {ρ : Ss} {P P' : Tm → Ss → Prop} {X X' : PX} {g ga gb gc g0 : Ev} {gs gk : Ss → OuL} {N N' : Ss → Prop} {R R' : Tm → Ss → Prop} {B C B' C' : Ss → Prop} {t u : Tm} {PL PL' : List Tm → Ss → Prop}
/-- the name at i holds t -/
def VarW (t : Tm) (i : Nat) (ρ : Ss) (P : Tm → Ss → Prop) : Prop := match t with
  | .v .O d => P (.loc i) ρ
  | .v k d => P (.v k d) ρ
  | _ => P (.loc i) ρ
theorem EW.var {i : Nat} (h : ρ[i]? = some (some t)) (p : VarW t i ρ P) : EW (eVar i) ρ P X := by
  with_unfolding_all
    cases t with
    | v k d => cases k <;> exact EW.ok (by rw [var_eq, h]) p
    | _ => exact EW.ok (by rw [var_eq, h]) p
theorem VarW.xF {i : Nat} {d : D} (h : P (.v .F d) ρ) : VarW (.v .F d) i ρ P := h
theorem VarW.xB {i : Nat} {d : D} (h : P (.v .B d) ρ) : VarW (.v .B d) i ρ P := h
theorem VarW.xO {i : Nat} {d : D} (h : P (.loc i) ρ) : VarW (.v .O d) i ρ P := h
theorem VarW.xOb {i c : Nat} {ts : List Tm} (h : P (.loc i) ρ) : VarW (.ob c ts) i ρ P := h

/-! calls -/
def PuW (ts : List Tm) (ms : List Md) (ρ : Ss) (K : List Tm → Ss → Prop) : Prop := ∃ us ρ2, pullT ts ms ρ = some (us, ρ2) ∧ K us ρ2
def PaW (ts : List Tm) (ms : List Md) (us : List Tm) (ρ : Ss) (K : List Tm → Prop) : Prop := ∃ ps, paramsT ts ms us ρ = some ps ∧ K ps
def PtW (ts : List Tm) (ms : List Md) (us : List Tm) (ρ : Ss) (K : Ss → Prop) : Prop := ∃ ρ3, putT ts ms us ρ = some ρ3 ∧ K ρ3
@[irreducible] def CaW (f : Fn) (ms : List Md) (ts : List Tm) (ρ : Ss) (P : Tm → Ss → Prop) (X : PX) : Prop := OuW (callF f ms ts ρ) P X
theorem FoW.imp {o : Fo} {P P' : Tm → List Tm → Prop} {X X' : Er → List Tm → Prop} (h : FoW o P X) (i : ∀ t ρ, P t ρ → P' t ρ) (j : ∀ e ρ, X e ρ → X' e ρ) : FoW o P' X' := by
  cases o with
  | ok t ρ => exact i _ _ h
  | ex e ρ => exact j _ _ h
  | no => exact h
theorem FW.imp {f : Fn} {ts : List Tm} {P P' : Tm → List Tm → Prop} {X X' : Er → List Tm → Prop} (h : FW f ts P X) (i : ∀ t ρ, P t ρ → P' t ρ) (j : ∀ e ρ, X e ρ → X' e ρ) : FW f ts P' X' := by with_unfolding_all exact (FoW.imp h i j)
theorem CaW.go {f : Fn} {ms : List Md} {ts : List Tm} (h : PuW ts ms ρ fun us ρ2 => PaW ts ms us ρ2 fun ps => FW f ps (fun r vs => PtW ts ms vs ρ2 fun ρ3 => P r ρ3) (fun e vs => PtW ts ms vs ρ2 fun ρ3 => X e ρ3)) : CaW f ms ts ρ P X := by
  with_unfolding_all
    obtain ⟨us, ρ2, h1, ps, h2, h3⟩ := h
    unfold CaW callF
    simp only [h1, h2]
    unfold FW at h3
    cases e : f ps with
    | ok r vs => rw [e] at h3; obtain ⟨ρ3, h4, h5⟩ := h3; simp only [h4]; exact h5
    | ex r vs => rw [e] at h3; obtain ⟨ρ3, h4, h5⟩ := h3; simp only [h4]; exact h5
    | no => rw [e] at h3; exact h3
theorem EW.call {f : Fn} {ms : List Md} (h : AW gs ρ (fun ts ρ1 => CaW f ms ts ρ1 P X) X) : EW (eCall f ms gs) ρ P X := by
  with_unfolding_all
    unfold EW
    rw [call_eq]
    exact OlW.bind h
theorem PuW.nil {K : List Tm → Ss → Prop} (h : K [] ρ) : PuW [] [] ρ K := ⟨[], ρ, by simp only [pullT], h⟩
theorem PuW.b {K : List Tm → Ss → Prop} {ts : List Tm} {ms : List Md} (h : PuW ts ms ρ K) : PuW (t :: ts) (.b :: ms) ρ K := by
  obtain ⟨us, ρ2, h1, h2⟩ := h
  exact ⟨us, ρ2, by simp only [pullT, h1], h2⟩
theorem PuW.f {K : List Tm → Ss → Prop} {ts : List Tm} {ms : List Md} (h : PuW ts ms ρ K) : PuW (t :: ts) (.f :: ms) ρ K := by
  obtain ⟨us, ρ2, h1, h2⟩ := h
  exact ⟨us, ρ2, by simp only [pullT, h1], h2⟩
theorem PuW.io {K : List Tm → Ss → Prop} {ts : List Tm} {ms : List Md} {i : Nat} {ρ1 : Ss} (h0 : ρ[i]? = some (some u)) (hs : ρ.set i none = ρ1) (h : PuW ts ms ρ1 fun us ρ2 => K (u :: us) ρ2) : PuW (.loc i :: ts) (.io :: ms) ρ K := by
  obtain ⟨us, ρ2, h1, h2⟩ := h
  subst hs
  exact ⟨u :: us, ρ2, by simp only [pullT, h0, h1], h2⟩
theorem PaW.nil {K : List Tm → Prop} (h : K []) : PaW [] [] [] ρ K := ⟨[], by simp only [paramsT], h⟩
theorem PaW.io {K : List Tm → Prop} {ts us : List Tm} {ms : List Md} (h : PaW ts ms us ρ fun ps => K (u :: ps)) : PaW (t :: ts) (.io :: ms) (u :: us) ρ K := by
  obtain ⟨ps, h1, h2⟩ := h
  exact ⟨u :: ps, by simp only [paramsT, h1, Option.map_some], h2⟩
theorem PaW.b {K : List Tm → Prop} {ts us : List Tm} {ms : List Md} {k : Kd} {d : D} (hd : Is ρ t k d) (h : PaW ts ms us ρ fun ps => K (.v .B d :: ps)) : PaW (t :: ts) (.b :: ms) us ρ K := by
  obtain ⟨ps, h1, h2⟩ := h
  exact ⟨_, by simp only [paramsT, show derT ρ t = _ from hd, h1, toD_v], h2⟩
theorem toDs_map (ts : List Tm) : toDs ts = ts.map toD := by induction ts <;> simp_all [toDs]
theorem PaW.bOb {K : List Tm → Prop} {ts us ts' : List Tm} {ms : List Md} {c : Nat} {xs : List D} (hd : derT ρ t = some (.ob c ts')) (hx : ts'.map toD = xs) (h : PaW ts ms us ρ fun ps => K (.v .B (.ins c xs) :: ps)) : PaW (t :: ts) (.b :: ms) us ρ K := by
  obtain ⟨ps, h1, h2⟩ := h
  have e : toD (.ob c ts') = .ins c xs := by rw [toD, toDs_map, hx]
  exact ⟨_, by simp only [paramsT, hd, h1, e], h2⟩
theorem PaW.fF {K : List Tm → Prop} {ts us : List Tm} {ms : List Md} {d : D} (h : PaW ts ms us ρ fun ps => K (.v .F d :: ps)) : PaW (.v .F d :: ts) (.f :: ms) us ρ K := by
  obtain ⟨ps, h1, h2⟩ := h
  exact ⟨_, by simp only [paramsT, h1], h2⟩
theorem PtW.nil {K : Ss → Prop} (h : K ρ) : PtW [] [] [] ρ K := ⟨ρ, by simp only [putT], h⟩
theorem PtW.b {K : Ss → Prop} {ts us : List Tm} {ms : List Md} (h : PtW ts ms us ρ K) : PtW (t :: ts) (.b :: ms) us ρ K := by
  obtain ⟨ps, h1, h2⟩ := h
  exact ⟨_, by simp only [putT, h1], h2⟩
theorem PtW.f {K : Ss → Prop} {ts us : List Tm} {ms : List Md} (h : PtW ts ms us ρ K) : PtW (t :: ts) (.f :: ms) us ρ K := by
  obtain ⟨ps, h1, h2⟩ := h
  exact ⟨_, by simp only [putT, h1], h2⟩
theorem PtW.io {K : Ss → Prop} {ts us : List Tm} {ms : List Md} {i : Nat} {ρ1 : Ss} (hl : i < ρ.length) (hs : ρ.set i (some u) = ρ1) (h : PtW ts ms us ρ1 K) : PtW (.loc i :: ts) (.io :: ms) (u :: us) ρ K := by
  obtain ⟨ps, h1, h2⟩ := h
  subst hs
  exact ⟨_, by simp only [putT, hl, if_true, h1], h2⟩
/-! a def's body -/
def GiW (ρ : Ss) (ios : List Nat) (K : List Tm → Prop) : Prop := ∃ us, getIo ρ ios = some us ∧ K us
def UnW (t : Tm) (K : Tm → Prop) : Prop := ∃ u, unB t = some u ∧ K u
theorem GiW.nil {K : List Tm → Prop} (h : K []) : GiW ρ [] K := ⟨[], rfl, h⟩
theorem GiW.cons {K : List Tm → Prop} {i : Nat} {is : List Nat} {ρ1 : Ss} (h0 : ρ[i]? = some (some t)) (hs : ρ.set i none = ρ1) (h : UnW t fun u => GiW ρ1 is fun us => K (u :: us)) : GiW ρ (i :: is) K := by
  obtain ⟨u, hu, us, h1, h2⟩ := h
  subst hs
  exact ⟨u :: us, by rw [getIo_cons]; simp only [h0, hu, h1], h2⟩
theorem UnW.get {K : Tm → Prop} (h : UnW t K) : ∃ u, unB t = some u ∧ K u := h
theorem UnW.of {K : Tm → Prop} (hu : unB t = some u) (h : K u) : UnW t K := ⟨u, hu, h⟩
theorem UnW.imp {K K' : Tm → Prop} (h : UnW t K) (i : ∀ u, K u → K' u) : UnW t K' := let ⟨u, hu, h⟩ := h; ⟨u, hu, i u h⟩
theorem UnW.xF {K : Tm → Prop} {d : D} (h : K (.v .F d)) : UnW (.v .F d) K := ⟨_, unB_F, h⟩
theorem UnW.xO {K : Tm → Prop} {d : D} (h : K (.v .O d)) : UnW (.v .O d) K := ⟨_, unB_O, h⟩
theorem UnW.xB {K : Tm → Prop} {d : D} (hf : flat d = true) (h : K (.v .F d)) : UnW (.v .B d) K := ⟨_, by rw [unB_B, if_pos hf], h⟩
theorem UnW.xOb {K : Tm → Prop} {c : Nat} {ts : List Tm} (hu : unBs ts = some ts) (h : K (.ob c ts)) : UnW (.ob c ts) K := ⟨_, by rw [unB_ob, hu, Option.map_some], h⟩
theorem unBs_nilE : unBs [] = some [] := unBs_nil
theorem unBs_F {d : D} {ts : List Tm} (h : unBs ts = some ts) : unBs (.v .F d :: ts) = some (.v .F d :: ts) := by rw [unBs_cons, unB_F, h]; rfl
theorem FW.def {n : Nat} {ios : List Nat} {body : Sm} {ts : List Tm} {ρ0 : Ss} {P : Tm → List Tm → Prop} {X : Er → List Tm → Prop} (hρ : ts.map some ++ List.replicate (n - ts.length) none = ρ0)
    (h : SW body ρ0 (fun ρ => GiW ρ ios fun us => P (.v .F .non) us) (fun t ρ => UnW t fun t' => GiW ρ ios fun us => P t' us) NoS NoS (fun e ρ => GiW ρ ios fun us => X e us)) : FW (defn n ios body) ts P X := by
  with_unfolding_all
    unfold FW
    rw [defn_eq, hρ]
    unfold SW at h
    unfold endF
    cases e : body ρ0 with
    | nx ρ => rw [e] at h; obtain ⟨us, h1, h2⟩ := h; simp only [h1]; exact h2
    | rt t ρ => rw [e] at h; obtain ⟨t', h0, us, h1, h2⟩ := h; simp only [h0, h1]; exact h2
    | ex e' ρ => rw [e] at h; obtain ⟨us, h1, h2⟩ := h; simp only [h1]; exact h2
    | bk ρ => rw [e] at h; exact h.elim
    | ct ρ => rw [e] at h; exact h.elim
    | no => rw [e] at h; exact h.elim
theorem FW.get {f : Fn} {ts : List Tm} {P : Tm → List Tm → Prop} (h : FW f ts P XF0) : ∃ t us, f ts = .ok t us ∧ P t us := by
  with_unfolding_all
    unfold FW at h
    cases e : f ts with
    | ok t us => rw [e] at h; exact ⟨t, us, rfl, h⟩
    | ex a b => rw [e] at h; exact h.elim
    | no => rw [e] at h; exact h.elim
theorem FW.of {f : Fn} {ts us : List Tm} {P : Tm → List Tm → Prop} {X : Er → List Tm → Prop} (h : f ts = .ok t us) (p : P t us) : FW f ts P X := by with_unfolding_all (unfold FW; rw [h]; exact p)

/-! objects -/
/-- the modes of a constructor: none to be given back -/
def noIo (ms : List Md) : Bool := ms.all fun m => match m with | .io => false | _ => true
theorem pull_no : ∀ {ts : List Tm} {ms : List Md}, noIo ms = true → ts.length = ms.length → pullT ts ms ρ = some ([], ρ)
  | [], [], _, _ => by simp only [pullT]
  | t :: ts, .io :: ms, h, _ => by simp [noIo] at h
  | t :: ts, .b :: ms, h, hl => by simp only [pullT]; exact pull_no (by simpa [noIo] using h) (by simpa using hl)
  | t :: ts, .f :: ms, h, hl => by simp only [pullT]; exact pull_no (by simpa [noIo] using h) (by simpa using hl)
theorem put_no : ∀ {ts : List Tm} {ms : List Md}, noIo ms = true → ts.length = ms.length → putT ts ms [] ρ = some ρ
  | [], [], _, _ => by simp only [putT]
  | t :: ts, .io :: ms, h, _ => by simp [noIo] at h
  | t :: ts, .b :: ms, h, hl => by simp only [putT]; exact put_no (by simpa [noIo] using h) (by simpa using hl)
  | t :: ts, .f :: ms, h, hl => by simp only [putT]; exact put_no (by simpa [noIo] using h) (by simpa using hl)
theorem der_app {x : Tm} {σ : Ss} (h : derT ρ t = some x) : derT (ρ ++ σ) t = some x := by
  cases t with
  | loc i =>
    simp only [derT] at h ⊢
    have hl : i < ρ.length := by
      rcases Nat.lt_or_ge i ρ.length with q | q
      · exact q
      · rw [List.getElem?_eq_none q] at h; cases h
    rw [List.getElem?_append_left hl]
    exact h
  | v k d => exact h
  | tp _ => exact h
  | ls _ => exact h
  | ob _ _ => exact h
theorem params_app {σ : Ss} : ∀ {ts : List Tm} {ms : List Md} {us ps : List Tm}, paramsT ts ms us ρ = some ps → paramsT ts ms us (ρ ++ σ) = some ps
  | [], [], [], ps, h => by simpa only [paramsT] using h
  | t :: ts, .io :: ms, u :: us, ps, h => by
    simp only [paramsT, Option.map_eq_some_iff] at h ⊢
    obtain ⟨qs, h, rfl⟩ := h
    exact ⟨qs, params_app h, rfl⟩
  | t :: ts, .b :: ms, us, ps, h => by
    simp only [paramsT] at h ⊢
    cases e : derT ρ t with
    | none => simp [e] at h
    | some x =>
      cases e2 : paramsT ts ms us ρ with
      | none => simp [e, e2] at h
      | some qs =>
        simp only [e, e2] at h
        simp only [der_app e, params_app e2]
        exact h
  | t :: ts, .f :: ms, us, ps, h => by
    simp only [paramsT] at h ⊢
    cases e2 : paramsT ts ms us ρ with
    | none => rw [e2] at h; split at h <;> simp_all
    | some qs =>
      rw [e2] at h
      rw [params_app e2]
      exact h
  | [], _ :: _, us, ps, h => by simp [paramsT] at h
  | [], [], u :: us, ps, h => by simp [paramsT] at h
  | t :: ts, [], us, ps, h => by simp [paramsT] at h
  | t :: ts, .io :: ms, [], ps, h => by simp [paramsT] at h
@[irreducible] def MkW (c : Nat) (f : Fn) (ms : List Md) (ts : List Tm) (ρ : Ss) (P : Tm → Ss → Prop) (X : PX) : Prop := OuW (mkF c f ms ts ρ) P X
theorem EW.make {c : Nat} {f : Fn} {ms : List Md} {dfl : List D} (h : AW gs ρ (fun ts ρ1 => AW gk ρ1 (fun us ρ2 => MkW c f ms (ts ++ us ++ dfl.map (Tm.v .F)) ρ2 P X) X) X) : EW (eMake c f ms gs gk dfl) ρ P X := by
  with_unfolding_all
    unfold EW eMake
    exact OlW.bind (OlW.imp h fun _ _ h => OlW.bind h)
theorem MkW.go {c : Nat} {f : Fn} {ms : List Md} {ts : List Tm} (hn : noIo ms = true) (hl : ts.length = ms.length)
    (h : PaW ts ms [] ρ fun ps => FW f (.ob c [] :: ps) (fun r vs => ∃ u, vs = [u] ∧ isNonT r = true ∧ P u ρ) (fun e vs => (∃ u, vs = [u]) ∧ X e ρ)) : MkW c f ms ts ρ P X := by
  with_unfolding_all
    obtain ⟨ps, h1, h2⟩ := h
    have e1 : (ρ ++ [some (Tm.ob c [])])[ρ.length]? = some (some (.ob c [])) := by simp
    have e2 : (ρ ++ [some (Tm.ob c [])]).set ρ.length none = ρ ++ [none] := by simp
    have hlt : ρ.length < (ρ ++ [(none : Option Tm)]).length := by simp
    have p1 : pullT (.loc ρ.length :: ts) (.io :: ms) (ρ ++ [some (.ob c [])]) = some ([.ob c []], ρ ++ [none]) := by simp only [pullT, e1, e2, pull_no hn hl]
    have p2 : paramsT (.loc ρ.length :: ts) (.io :: ms) [.ob c []] (ρ ++ [none]) = some (.ob c [] :: ps) := by simp only [paramsT, params_app h1, Option.map_some]
    have p3 : ∀ u, putT (.loc ρ.length :: ts) (.io :: ms) [u] (ρ ++ [none]) = some (ρ ++ [some u]) := fun u => by
      simp only [putT, hlt, if_true, put_no hn hl]
      simp
    have e4 : ∀ u : Tm, (ρ ++ [some u]).take ρ.length = ρ := fun u => by simp
    have e6 : ∀ u : Tm, (ρ ++ [some u])[ρ.length]? = some (some u) := fun u => by simp
    unfold MkW mkF callF
    simp only [p1, p2]
    unfold FW at h2
    cases e : f (.ob c [] :: ps) with
    | ok r vs =>
      rw [e] at h2
      obtain ⟨u, rfl, hr, hp⟩ := h2
      simp only [p3, hr, if_true, e6, e4]
      exact hp
    | ex r vs =>
      rw [e] at h2
      obtain ⟨⟨u, rfl⟩, hp⟩ := h2
      simp only [p3, e4]
      exact hp
    | no => rw [e] at h2; exact h2
/-- a field -/
def FldW (c j : Nat) (t : Tm) (ρ : Ss) (P : Tm → Ss → Prop) : Prop := O1W (fldT c j) t ρ P
theorem EW.fld {c j : Nat} (h : EW g ρ (fun t ρ1 => FldW c j t ρ1 P) X) : EW (eFld c j g) ρ P X := by with_unfolding_all exact (EW.op1 h)
theorem FldW.ob {c j i : Nat} {ts : List Tm} {d : D} (h : ρ[i]? = some (some (.ob c ts))) (hj : ts[j]? = some (.v .F d)) (p : P (.v .F d) ρ) : FldW c j (.loc i) ρ P := ⟨.ob c ts, _, by simp only [derT, h], by simp only [fldT, if_true, hj], p⟩
theorem FldW.insB {c j : Nat} {xs : List D} {d : D} (hj : xs[j]? = some d) (p : P (.v .B d) ρ) : FldW c j (.v .B (.ins c xs)) ρ P := ⟨_, _, rfl, by simp only [fldT, if_true, hj, Option.map_some, sub_B], p⟩
theorem SW.fst {c j i : Nat} (h : EW g ρ (fun t ρ1 => UnW t fun u => ∃ ts, ρ1[i]? = some (some (.ob c ts)) ∧ j ≤ ts.length ∧ ∃ ρ2, ρ1.set i (some (.ob c (setAt ts j u))) = ρ2 ∧ N ρ2) X) : SW (sFst c j i g) ρ N R B C X := by
  with_unfolding_all
    unfold SW sFst
    refine OuW.toF (OuW.imp h (fun t ρ1 h => ?_) fun _ _ h => h)
    obtain ⟨u, e1, ts, e2, e3, _, rfl, h⟩ := h
    simp only [e2, e1]
    rw [if_pos ⟨trivial, e3⟩]
    exact h
theorem SW.aug {i : Nat} {fo : Tm → Tm → Option Tm} {d : D} (h0 : ρ[i]? = some (some (.v .F d))) (h : EW g ρ (fun t ρ1 => ∃ u1 rr, derT ρ1 t = some u1 ∧ fo (.v .F d) u1 = some rr ∧ isLoc rr = false ∧ i < ρ1.length ∧ ∃ ρ2, ρ1.set i (some rr) = ρ2 ∧ N ρ2) X) : SW (sAug i fo g) ρ N R B C X := by
  with_unfolding_all
    unfold SW sAug
    simp only [h0]
    refine OuW.toF (OuW.imp h (fun t ρ1 h => ?_) fun _ _ h => h)
    obtain ⟨u1, rr, e2, e3, e4, e5, _, rfl, h⟩ := h
    simp only [e2, e3]
    rw [if_pos ⟨e4, e5⟩]
    exact h
/-! lists -/
def LmW (op : List D → List D → Option (D × List D)) (i : Nat) (ds : List D) (ρ1 : Ss) (P : Tm → Ss → Prop) : Prop := ∃ xs x xs', ρ1[i]? = some (some (.v .O (.lst xs))) ∧ op xs ds = some (x, xs') ∧ xs'.length ≤ sizeLine ∧ ∃ ρ2, ρ1.set i (some (.v .O (.lst xs'))) = ρ2 ∧ P (.v .F x) ρ2
theorem EW.lm {op : List D → List D → Option (D × List D)} {i : Nat} (hl : isLs ρ i = true) (h : AW gs ρ (fun ts ρ1 => FzsW ts fun ds => LmW op i ds ρ1 P) X) : EW (eLm op i gs) ρ P X := by
  with_unfolding_all
    unfold EW eLm
    rw [if_pos hl]
    refine OlW.bind (OlW.imp h fun ts ρ1 h => ?_)
    obtain ⟨ds, e1, xs, x, xs', e2, e3, e4, _, rfl, h⟩ := h
    simp only [e1, e2, e3]
    rw [if_pos e4]
    exact h
def IdxW (t u : Tm) (ρ : Ss) (P : Tm → Ss → Prop) : Prop := O2W opIdx t u ρ P
theorem EW.idx (h : EW ga ρ (fun t ρ1 => EW gb ρ1 (fun u ρ2 => IdxW t u ρ2 P) X) X) : EW (eIdx ga gb) ρ P X := by with_unfolding_all exact (EW.op2 h)
theorem IdxW.lst {k l : Kd} {xs : List D} {i : Int} {d : D} (h1 : Is ρ t k (.lst xs)) (h2 : Is ρ u l (.int i)) (h3 : atI xs i = some d) (p : P (subK k d) ρ) : IdxW t u ρ P := ⟨_, _, _, h1, h2, by simp only [opIdx, idxV, h3, Option.map_some], p⟩
theorem IdxW.tup {k l : Kd} {xs : List D} {i : Int} {d : D} (h1 : Is ρ t k (.tup xs)) (h2 : Is ρ u l (.int i)) (h3 : atI xs i = some d) (p : P (subK k d) ρ) : IdxW t u ρ P := ⟨_, _, _, h1, h2, by simp only [opIdx, idxV, h3, Option.map_some], p⟩
theorem IdxW.lB {l : Kd} {xs : List D} {i : Int} {d : D} (h1 : Is ρ t .B (.lst xs)) (h2 : Is ρ u l (.int i)) (h3 : atI xs i = some d) (p : P (.v .B d) ρ) : IdxW t u ρ P := IdxW.lst h1 h2 h3 p
theorem IdxW.lF {l : Kd} {xs : List D} {i : Int} {d : D} (h1 : Is ρ t .F (.lst xs)) (h2 : Is ρ u l (.int i)) (h3 : atI xs i = some d) (p : P (.v .F d) ρ) : IdxW t u ρ P := IdxW.lst h1 h2 h3 p
theorem IdxW.lO {l : Kd} {xs : List D} {i : Int} {d : D} (h1 : Is ρ t .O (.lst xs)) (h2 : Is ρ u l (.int i)) (h3 : atI xs i = some d) (p : P (.v .F d) ρ) : IdxW t u ρ P := IdxW.lst h1 h2 h3 p
theorem IdxW.tB {l : Kd} {xs : List D} {i : Int} {d : D} (h1 : Is ρ t .B (.tup xs)) (h2 : Is ρ u l (.int i)) (h3 : atI xs i = some d) (p : P (.v .B d) ρ) : IdxW t u ρ P := IdxW.tup h1 h2 h3 p
theorem IdxW.tF {l : Kd} {xs : List D} {i : Int} {d : D} (h1 : Is ρ t .F (.tup xs)) (h2 : Is ρ u l (.int i)) (h3 : atI xs i = some d) (p : P (.v .F d) ρ) : IdxW t u ρ P := IdxW.tup h1 h2 h3 p
theorem IdxW.scr {k l : Kd} {xs : List Int} {i : Int} {d : Int} (h1 : Is ρ t k (.scr xs)) (h2 : Is ρ u l (.int i)) (h3 : atI xs i = some d) (p : P (.v .F (.int d)) ρ) : IdxW t u ρ P := ⟨_, _, _, h1, h2, by simp only [opIdx, idxV, h3, Option.map_some], p⟩
theorem atN {α : Type} {xs : List α} {i : Nat} {x : α} (h : xs[i]? = some x) : atI xs (i : Int) = some x := by
  have hl := (List.getElem?_eq_some_iff.mp h).1
  unfold atI ixN
  rw [if_pos (by omega), if_pos (by omega)]
  exact h
theorem TW.sub {i : Nat} {gi : Ev} (hl : isLs ρ i = true) (h : EW gi ρ (fun u ρ2 => I1W u ρ2 fun k => FzD t fun d => ∃ xs j, ρ2[i]? = some (some (.v .O (.lst xs))) ∧ ixN xs.length k = some j ∧ ∃ ρ3, ρ2.set i (some (.v .O (.lst (xs.set j d)))) = ρ3 ∧ N ρ3) X0) : TW (tgSub i gi) t ρ N := by
  with_unfolding_all
    obtain ⟨u, ρ2, e, k, kk, hk, d, hd, xs, j, h1, h2, ρ3, rfl, h⟩ := EW.get h
    refine ⟨_, ?_, h⟩
    unfold tgSub
    rw [if_pos hl, e]
    simp only [h1, show derT ρ2 u = _ from hk, hd, h2]
theorem sub5 {xs xs' : List D} {i j : Nat} {k : Int} {d : D} {ρ1 ρ3 : Ss} {N : Ss → Prop} (h1 : ρ1[i]? = some (some (.v .O (.lst xs)))) (h2 : ixN xs.length k = some j) (h3 : xs.set j d = xs') (h4 : ρ1.set i (some (.v .O (.lst xs'))) = ρ3) (h : N ρ3) :
    ∃ xs j, ρ1[i]? = some (some (.v .O (.lst xs))) ∧ ixN xs.length k = some j ∧ ∃ ρ3, ρ1.set i (some (.v .O (.lst (xs.set j d)))) = ρ3 ∧ N ρ3 := by
  subst h3 h4
  exact ⟨xs, j, h1, h2, _, rfl, h⟩
theorem lm5 {op : List D → List D → Option (D × List D)} {i : Nat} {ds xs xs' : List D} {x : D} {ρ1 ρ2 : Ss} (h1 : ρ1[i]? = some (some (.v .O (.lst xs)))) (h2 : op xs ds = some (x, xs')) (h3 : xs'.length ≤ sizeLine) (h4 : ρ1.set i (some (.v .O (.lst xs'))) = ρ2) (h : P (.v .F x) ρ2) : LmW op i ds ρ1 P := ⟨xs, x, xs', h1, h2, h3, ρ2, h4, h⟩
theorem fst4 {c j i : Nat} {u : Tm} {ts ts' : List Tm} {ρ1 ρ2 : Ss} {N : Ss → Prop} (h1 : ρ1[i]? = some (some (.ob c ts))) (h2 : j ≤ ts.length) (h3 : setAt ts j u = ts') (h4 : ρ1.set i (some (.ob c ts')) = ρ2) (h : N ρ2) :
    ∃ ts, ρ1[i]? = some (some (.ob c ts)) ∧ j ≤ ts.length ∧ ∃ ρ2, ρ1.set i (some (.ob c (setAt ts j u))) = ρ2 ∧ N ρ2 := by
  subst h3 h4
  exact ⟨ts, h1, h2, _, rfl, h⟩
theorem setAt_n {α : Type} {x : α} {j : Nat} : setAt [] j x = [x] := by cases j <;> rfl
theorem setAt_s {α : Type} {x y : α} {l l' : List α} {j : Nat} (h : setAt l j x = l') : setAt (y :: l) (j + 1) x = y :: l' := by simp only [setAt, h]
theorem EW.abs (h : EW g ρ (fun t ρ1 => I1W t ρ1 fun i => P (.v .F (.int (if i < 0 then -i else i))) ρ1) X) : EW (eAbs g) ρ P X := by with_unfolding_all exact (EW.op1 (EW.imp h fun t ρ1 h => by
  obtain ⟨i, k, h1, h2⟩ := h
  exact rd1_is h1 rfl h2))
theorem EW.pow (h : EW ga ρ (fun t ρ1 => EW gb ρ1 (fun u ρ2 => IIW t u ρ2 fun i j => ∃ r, powI i j = some r ∧ P (.v .F (.int r)) ρ2) X) X) : EW (ePow ga gb) ρ P X := by with_unfolding_all exact (EW.op2 (E2W.imp h fun t u ρ h => by
  obtain ⟨i, j, k, l, h1, h2, r, h3, h4⟩ := h
  exact rd2_is h1 h2 (by simp only [dI2, h3, Option.map_some]) h4))
theorem pow18 : powI 10 18 = some 1000000000000000000 := by
  unfold powI
  rw [if_pos (by decide), show (18 : Int).toNat = 18 from rfl]
  simp
theorem SW.par {is : List Nat} (h : AW gs ρ (fun ts ρ1 => ∃ ρ2, stAll is ts ρ1 = some ρ2 ∧ N ρ2) X) : SW (sPar is gs) ρ N R B C X := by
  with_unfolding_all
    unfold SW sPar
    unfold AW at h
    cases e : gs ρ with
    | ok ts ρ1 => rw [e] at h; obtain ⟨ρ2, e2, h⟩ := h; simp only [e2]; exact h
    | ex a b => rw [e] at h; exact h
    | no => rw [e] at h; exact h
theorem EW.len (h : EW g ρ (fun t ρ1 => O1W (rd1 lenD) t ρ1 P) X) : EW (eLen g) ρ P X := by with_unfolding_all exact (EW.op1 h)
theorem len_lst {k : Kd} {xs : List D} (h1 : Is ρ t k (.lst xs)) (p : P (.v .F (.int xs.length)) ρ) : O1W (rd1 lenD) t ρ P := rd1_is h1 rfl p
theorem len_tup {k : Kd} {xs : List D} (h1 : Is ρ t k (.tup xs)) (p : P (.v .F (.int xs.length)) ρ) : O1W (rd1 lenD) t ρ P := rd1_is h1 rfl p
theorem len_scr {k : Kd} {xs : List Int} (h1 : Is ρ t k (.scr xs)) (p : P (.v .F (.int xs.length)) ρ) : O1W (rd1 lenD) t ρ P := rd1_is h1 rfl p
end
end PV

namespace PV
open PySem L2
local macro_rules | `(tactic| walk_at "set") => `(tactic| (repeat (first | exact set_z | apply set_s)))
local macro_rules | `(tactic| walk_at "is") => `(tactic| (first | exact Is.v | exact Is.loc rfl))
local macro_rules | `(tactic| walk_at "lt") => `(tactic| first | exact ltL rfl | omega | (simp only [List.length_cons, List.length_nil]; omega))
local macro_rules | `(tactic| walk_at "sz") => `(tactic| first | omega | (simp only [sizeLine_eq, List.length_append, List.length_cons, List.length_nil, List.length_map, List.length_replicate, List.length_reverse] at *; omega))
local macro_rules | `(tactic| walk_at "w1") => `(tactic| (first
  | (with_reducible refine EW.c ?_) | (with_reducible refine EW.n ?_) | (with_reducible refine EW.tr ?_) | ((with_reducible apply EW.var); (focus (exact rfl))) | (with_reducible refine VarW.xF ?_) | (with_reducible refine VarW.xB ?_) | (with_reducible refine VarW.xO ?_) | (with_reducible refine VarW.xOb ?_)
  | (with_reducible refine SW.seq ?_) | ((with_reducible refine SW.set ?_)) | (with_reducible refine SW.ite ?_) | (with_reducible refine SW.ret ?_) | (with_reducible refine SW.asg ?_) | (with_reducible refine SW.nil ?_) | (with_reducible refine SW.expr ?_) | (with_reducible refine SW.for ?_) | (with_reducible refine SW.fst ?_) | (with_reducible refine SW.par ?_)
  | (with_reducible refine EW.gt ?_) | (with_reducible refine EW.lt ?_) | (with_reducible refine EW.le ?_) | (with_reducible refine EW.ge ?_) | (with_reducible refine EW.mod ?_) | (with_reducible refine EW.div ?_) | (with_reducible refine EW.sub ?_) | (with_reducible refine EW.add ?_) | (with_reducible refine EW.mul ?_) | (with_reducible refine EW.idx ?_) | (with_reducible refine EW.max2 ?_) | (with_reducible refine EW.min2 ?_) | (with_reducible refine EW.len ?_) | (with_reducible refine EW.call ?_) | (with_reducible refine EW.meth ?_) | (with_reducible refine EW.prop ?_) | (with_reducible refine EW.make ?_) | (with_reducible refine EW.fld ?_) | (with_reducible refine EW.ifx ?_) | (with_reducible refine EW.and ?_) | (with_reducible refine EW.or ?_) | (with_reducible refine EW.not ?_) | (with_reducible refine EW.tup ?_) | (with_reducible refine EW.lst ?_) | (with_reducible refine EW.comp ?_)
  | (with_reducible refine EW.mv ?_) | (with_reducible refine EW.fz ?_) | (with_reducible refine FzW.F ?_) | (with_reducible refine FzW.O ?_) | ((with_reducible refine FzW.Bx ?_ ?_); (focus (exact flat_int))) | ((with_reducible refine FzW.Bx ?_ ?_); (focus (exact flat_str))) | ((with_reducible apply FzW.loc); (focus (exact rfl)); (focus (walk_at "set")))
  | (with_reducible refine MvW.v ?_) | ((with_reducible apply MvW.loc); (focus (exact rfl)); (focus (walk_at "set")))
  | (with_reducible refine AW.nil ?_) | (with_reducible refine AW.cons ?_) | (with_reducible refine FzsW.nil ?_) | (with_reducible refine FzsW.F ?_) | (with_reducible refine FzsW.O ?_) | ((with_reducible refine FzsW.Bx ?_ ?_); (focus (exact flat_int))) | ((with_reducible refine FzsW.Bx ?_ ?_); (focus (exact flat_str)))
  | ((with_reducible apply IIW.go); (focus (walk_at "is")); (focus (walk_at "is"))) | ((with_reducible apply AddW.ii); (focus (walk_at "is")); (focus (walk_at "is"))) | ((with_reducible apply MulW.ii); (focus (walk_at "is")); (focus (walk_at "is")); (focus omega))
  | ((with_reducible apply FldW.ob); (focus (exact rfl)); (focus (exact rfl))) | ((with_reducible apply FldW.insB); (focus (exact rfl))) | ((with_reducible apply FldW.insF); (focus (exact rfl)))
  | ((with_reducible apply IdxW.lB); (focus (walk_at "is")); (focus (walk_at "is")); (focus (exact rfl))) | ((with_reducible apply IdxW.lF); (focus (walk_at "is")); (focus (walk_at "is")); (focus (exact rfl))) | ((with_reducible apply IdxW.lO); (focus (walk_at "is")); (focus (walk_at "is")); (focus (exact rfl))) | ((with_reducible apply IdxW.tB); (focus (walk_at "is")); (focus (walk_at "is")); (focus (exact rfl))) | ((with_reducible apply IdxW.tF); (focus (walk_at "is")); (focus (walk_at "is")); (focus (exact rfl)))
  | ((with_reducible apply TW.sub); (focus (exact rfl))) | ((with_reducible apply I1W.go); (focus (walk_at "is"))) | ((with_reducible apply sub5); (focus (exact rfl)); (focus (first | exact ix0 rfl | exact ix1 rfl)); (focus (walk_at "set")); (focus (walk_at "set")))
  | ((with_reducible apply EW.lm); (focus (exact rfl))) | ((with_reducible apply lm5); (focus (exact rfl)); (focus (exact rfl)); (focus (walk_at "sz")); (focus (walk_at "set")))
  | ((with_reducible apply fst4); (focus (exact rfl)); (focus (walk_at "lt")); (focus (repeat (first | exact setAt_z | exact setAt_n | apply setAt_s))); (focus (walk_at "set")))
  | ((with_reducible apply SW.faug); (focus (exact rfl)); (focus (exact rfl))) | ((with_reducible apply SW.aug); (focus (exact rfl)))
  | ((with_reducible apply len_lst); (focus (walk_at "is"))) | ((with_reducible apply len_tup); (focus (walk_at "is"))) | ((with_reducible apply len_scr); (focus (walk_at "is"))) | (with_reducible refine EW.abs ?_) | (with_reducible refine EW.pow ?_)
  | (with_reducible refine GiW.nil ?_) | ((with_reducible apply GiW.cons); (focus (exact rfl)); (focus (walk_at "set"))) | (with_reducible refine UnW.xF ?_) | (with_reducible refine UnW.xO ?_) | ((with_reducible refine UnW.xB ?_ ?_); (focus (exact flat_int))) | ((with_reducible refine UnW.xB ?_ ?_); (focus (exact flat_str))) | ((with_reducible refine UnW.xOb ?_ ?_); (focus (repeat (first | exact unBs_nilE | refine unBs_F ?_ | refine unBs_O ?_))))
  | (with_reducible refine CaW.go ?_) | (with_reducible refine PuW.nil ?_) | (with_reducible refine PuW.b ?_) | (with_reducible refine PuW.f ?_) | ((with_reducible apply PuW.io); (focus (exact rfl)); (focus (walk_at "set"))) | ((with_reducible refine PuW.ioT ?_ ?_); (focus (exact rfl)))
  | (with_reducible refine PaW.nil ?_) | (with_reducible refine PaW.io ?_) | ((with_reducible apply PaW.b); (focus (walk_at "is"))) | (with_reducible refine PaW.fF ?_)
  | (with_reducible refine PtW.nil ?_) | (with_reducible refine PtW.b ?_) | (with_reducible refine PtW.f ?_) | ((with_reducible apply PtW.io); (focus (walk_at "lt")); (focus (walk_at "set"))) | ((with_reducible refine PtW.ioT ?_ ?_); (focus (exact rfl)))
  | (with_reducible refine IW.seq ?_) | (with_reducible refine IW.r1 ?_) | (with_reducible refine IW.r2 ?_) | (with_reducible refine ItsW.lstF ?_) | (with_reducible refine ItsW.lstB ?_) | (with_reducible refine ItsW.lstO ?_) | (with_reducible refine ItsW.tupF ?_) | (with_reducible refine ItsW.tupB ?_) | ((with_reducible refine R1W.go ?_ ?_); (focus omega))
  | ((with_reducible apply TW.n); (focus (exact rfl)); (focus (walk_at "lt")); (focus (walk_at "set"))) | (with_reducible refine TsW.nil ?_) | (with_reducible refine TsW.cons ?_) | (with_reducible refine TW.tupF ?_) | (with_reducible refine TW.tupB ?_) | (with_reducible refine TW.tp ?_)
  | (with_reducible refine BoW.tt ?_) | (with_reducible refine BoW.ff ?_) | (with_reducible refine NotW.d ?_) | (with_reducible refine NotW.b ?_) | (with_reducible refine FzD.F ?_) | (with_reducible refine FzD.O ?_) | ((with_reducible refine FzD.Bx ?_ ?_); (focus (exact flat_int)))
  | ((with_reducible apply and3); (focus (exact rfl)); (focus (walk_at "lt")); (focus (walk_at "set")))
  | ((with_reducible apply And.intro); (focus (first | walk_at "sz" | exact rfl))) ))
local macro_rules | `(tactic| walk_at "wp") => `(tactic| repeat (walk_at "w1"))
def d_feed : Sm := (sSeq (sSet 2 (eIf (eLt (eVar 1) (eLen (eVar 0))) (eIdx (eVar 0) (eVar 1)) (eAdd (eMul (eC (.int 83)) (eVar 1)) (eC (.int 29)))))
    (sSeq (sSet 3 (eMax2 (eC (.int 0)) (eSub (eAbs (eVar 2)) (ePow (eC (.int 10)) (eC (.int 18))))))
    (sSeq (sSet 4 (eMod (eAdd (eAdd (eMul (eVar 2) (eC (.int 6364136223846793005))) (eMul (eC (.int 7919)) (eVar 1))) (eC (.int 1442695040888963407))) (eC (.int 2305843009213693951))))
    (sRet (eLst (gCons (eF (eVar 3)) (gCons (eF (eVar 4)) gNil)))))))
def den_feed : Fn := defn 5 [] d_feed
def d_take : Sm := (sSeq (sIf (eGt (eIdx (eVar 0) (eC (.int 0))) (eC (.int 0)))
    (sSeq (sSet 2 (eMod (eIdx (eVar 0) (eC (.int 0))) (eVar 1)))
    (sSeq (sAsg (tgSub 0 (eC (.int 0))) (eDiv (eIdx (eVar 0) (eC (.int 0))) (eVar 1)))
    (sRet (eM (eVar 2)))))
    sNil)
    (sSeq (sAsg (tgSub 0 (eC (.int 1))) (eMod (eAdd (eMul (eIdx (eVar 0) (eC (.int 1))) (eC (.int 6364136223846793005))) (eC (.int 1442695040888963407))) (eC (.int 2305843009213693951))))
    (sRet (eMod (eDiv (eIdx (eVar 0) (eC (.int 1))) (eC (.int 65536))) (eVar 1)))))
def den_take : Fn := defn 3 [0] d_take
def d_pick : Sm := (sRet (eIdx (eVar 1) (eCall den_take [.io, .b] (gCons (eVar 0) (gCons (eLen (eVar 1)) gNil)))))
def den_pick : Fn := defn 2 [0] d_pick
abbrev feedT (d s : Int) : Tm := .v .O (.lst [.int d, .int s])
theorem FW.take {d s m : Int} {P : Tm → List Tm → Prop} {X : Er → List Tm → Prop} (h : 0 < m) (h2 : m < 1073741824) (k : ∀ x d' s', 0 ≤ x → x < m → P (.v .F (.int x)) [feedT d' s']) : FW den_take [feedT d s, .v .B (.int m)] P X := by
  refine FW.def (ρ0 := [some (feedT d s), some (.v .B (.int m)), none]) rfl ?_
  unfold d_take
  walk_at "wp"
  refine BoW.d (fun h0 => ?_) fun h0 => ?_
  all_goals walk_at "wp"
  all_goals exact k _ _ _ (Int.emod_nonneg _ (by omega)) (Int.emod_lt_of_pos _ h)
theorem FW.feed {ns : List Int} {k : Nat} {P : Tm → List Tm → Prop} {X : Er → List Tm → Prop} (hk : k < 1000) (h : ∀ d s, P (feedT d s) []) : FW den_feed [.v .B (.scr ns), .v .B (.int k)] P X := by
  refine FW.def (ρ0 := [some (.v .B (.scr ns)), some (.v .B (.int k)), none, none, none]) rfl ?_
  unfold d_feed
  have go : ∀ (n : Int) (N : Ss → Prop), True → True := fun _ _ h => h
  walk_at "wp"
  refine BoW.d (fun h0 => ?_) fun h0 => ?_
  · walk_at "wp"
    have hl : k < ns.length := by omega
    refine IdxW.scr (by walk_at "is") (by walk_at "is") (atN (List.getElem?_eq_getElem hl)) ?_
    walk_at "wp"
    refine ⟨_, pow18, ?_⟩
    walk_at "wp"
    exact h _ _
  · walk_at "wp"
    refine ⟨_, pow18, ?_⟩
    walk_at "wp"
    exact h _ _
/-- some[take]: some of the list's -/
theorem FW.pick {d s : Int} {xs : List D} {P : Tm → List Tm → Prop} {X : Er → List Tm → Prop} (h0 : 0 < xs.length) (h1 : xs.length < 1073741824) (k : ∀ x d' s', x ∈ xs → UnW (.v .B x) fun u => P u [feedT d' s']) : FW den_pick [feedT d s, .v .B (.lst xs)] P X := by
  refine FW.def (ρ0 := [some (feedT d s), some (.v .B (.lst xs))]) rfl ?_
  unfold d_pick
  walk_at "wp"
  refine FW.take (by omega) (by omega) fun x d' s' lo hi => ?_
  walk_at "wp"
  obtain ⟨n, rfl⟩ := Int.eq_ofNat_of_zero_le lo
  have hl : n < xs.length := by omega
  refine IdxW.lB (by walk_at "is") (by walk_at "is") (atN (List.getElem?_eq_getElem hl)) ?_
  refine (k xs[n] d' s' (List.getElem_mem hl)).imp fun u hp => ?_
  walk_at "wp"
  exact hp
end PV

namespace PV
open PySem L2
section
variable {ρ : Ss} {P P' : Tm → Ss → Prop} {X X' : PX} {g ga gb gc g0 test elt : Ev} {gs gk : Ss → OuL} {N N' : Ss → Prop} {R R' : Tm → Ss → Prop} {B C B' C' : Ss → Prop} {t u : Tm} {PL PL' : List Tm → Ss → Prop} {it : Iv} {v : Nat}
/-- a comprehension with one name that leaves the names as they are -/
def CpW (v : Nat) (test elt : Ev) (ts : List Tm) (ρ : Ss) (K : List D → Prop) : Prop := hideOk ρ v = true ∧ ∃ ds, compL (tgN v) test elt [v] ts ρ = some (ds, ρ.set v none) ∧ ds.length ≤ sizeLine ∧ K ds
theorem hide_at (h : hideOk ρ v = true) : ∃ o, ρ[v]? = some o := by
  unfold hideOk at h
  cases e : ρ[v]? with
  | none => rw [e] at h; cases h
  | some o => exact ⟨o, rfl⟩
theorem rest1 {o : Option Tm} (h : ρ[v]? = some o) : restS ρ (ρ.set v none) [v] = ρ := by
  simp only [restS, h, setset]
  have hl := (List.getElem?_eq_some_iff.mp h)
  obtain ⟨hl, e⟩ := hl
  rw [← e]
  exact List.set_getElem_self hl
theorem EW.comp1 (h : IW it ρ (fun ts ρ1 => CpW v test elt ts ρ1 fun ds => P (.v .O (.lst ds)) ρ1) X) : EW (eComp it [v] (tgN v) test elt) ρ P X := by
  with_unfolding_all
    refine EW.comp ?_
    unfold IW at h ⊢
    cases e : it ρ with
    | ok ts ρ1 =>
      rw [e] at h
      obtain ⟨h1, ds, h2, h3, h4⟩ := h
      obtain ⟨o, ho⟩ := hide_at h1
      exact ⟨by simpa using h1, ds, _, h2, h3, _, rest1 ho, h4⟩
    | ex e' ρ1 => rw [e] at h; exact h
    | no => rw [e] at h; exact h
theorem CpW.map {α : Type} {K : List D → Prop} {inj : α → Tm} (p : α → Bool) (f : α → D) (xs : List α) (hl : ∀ a, isLoc (inj a) = false) (hv : hideOk ρ v = true)
    (ht : ∀ a ∈ xs, ∃ ρ2, ρ.set v (some (inj a)) = ρ2 ∧ EW test ρ2 (fun t ρ1 => t = .v .F (.bl (p a)) ∧ ρ1 = ρ2) X0)
    (he : ∀ a ∈ xs, p a = true → ∃ ρ2, ρ.set v (some (inj a)) = ρ2 ∧ EW elt ρ2 (fun t ρ1 => FzD t fun d => d = f a ∧ ρ1 = ρ2) X0) (hz : ((xs.filter p).map f).length ≤ sizeLine) (h : K ((xs.filter p).map f)) : CpW v test elt (xs.map inj) ρ K := by
  with_unfolding_all
    have hvl : v < ρ.length := by obtain ⟨o, ho⟩ := hide_at hv; exact (List.getElem?_eq_some_iff.mp ho).1
    refine ⟨hv, _, ?_, hz, h⟩
    clear hz h
    have main : ∀ (ys : List α) (σ : Ss), (∀ a ∈ ys, a ∈ xs) → (∀ x, σ.set v x = ρ.set v x) → v < σ.length → compL (tgN v) test elt [v] (ys.map inj) σ = some ((ys.filter p).map f, ρ.set v none) := by
      intro ys
      induction ys with
      | nil => intro σ _ hs _; simp [compL, wipeS, hs]
      | cons a ys ih =>
        intro σ hm hs hlv
        have ha := hm a List.mem_cons_self
        have hm' : ∀ b ∈ ys, b ∈ xs := fun b hb => hm b (List.mem_cons_of_mem _ hb)
        obtain ⟨_, rfl, h1⟩ := ht a ha
        obtain ⟨_, _, e1, rfl, rfl⟩ := EW.get h1
        have ih' := ih (ρ.set v (some (inj a))) hm' (fun x => by simp) (by simpa using hvl)
        have c1 : tgN v (inj a) (wipeS σ [v]) = some (ρ.set v (some (inj a))) := by
          simp only [wipeS, tgN_eq, hl a, List.length_set, hlv, hvl, and_self, if_true, setset, hs]
        cases hp : p a with
        | true =>
          obtain ⟨_, rfl, h2⟩ := he a ha hp
          obtain ⟨x, _, e2, d, hd, rfl, rfl⟩ := EW.get h2
          rw [hp] at e1
          simp only [List.map_cons, compL, c1, e1, asB_v, e2, hd, ih', List.filter_cons, hp, if_true]
        | false =>
          rw [hp] at e1
          simp only [List.map_cons, compL, c1, e1, asB_v, ih', List.filter_cons, hp, Bool.false_eq_true, if_false]
    exact main xs ρ (fun _ h => h) (fun _ => rfl) hvl
theorem CpW.ints {K : List D → Prop} {k : Kd} (p : Int → Bool) (f : Int → D) (xs : List Int) (hv : hideOk ρ v = true)
    (ht : ∀ a ∈ xs, ∃ ρ2, ρ.set v (some (.v k (.int a))) = ρ2 ∧ EW test ρ2 (fun t ρ1 => t = .v .F (.bl (p a)) ∧ ρ1 = ρ2) X0)
    (he : ∀ a ∈ xs, p a = true → ∃ ρ2, ρ.set v (some (.v k (.int a))) = ρ2 ∧ EW elt ρ2 (fun t ρ1 => FzD t fun d => d = f a ∧ ρ1 = ρ2) X0) (hz : ((xs.filter p).map f).length ≤ sizeLine) (h : K ((xs.filter p).map f)) : CpW v test elt ((xs.map D.int).map (Tm.v k)) ρ K := by
  with_unfolding_all
    rw [List.map_map]
    exact CpW.map (inj := (Tm.v k) ∘ D.int) p f xs (fun _ => rfl) hv ht he hz h
/-- items of one list, by their data -/
theorem ForW.data {α : Type} {k : Kd} {f : α → D} {tg : Tg} {body : Sm} (I : List α → Ss → Prop) (xs : List α) {ρ : Ss} (h0 : I [] ρ)
    (hs : ∀ p x q ρ, xs = p ++ x :: q → I p ρ → TW tg (.v k (f x)) ρ fun ρ1 => SW body ρ1 (fun ρ2 => I (p ++ [x]) ρ2) R N (fun ρ2 => I (p ++ [x]) ρ2) X) (he : ∀ ρ, I xs ρ → N ρ) : ForW tg body ((xs.map f).map (Tm.v k)) ρ N R X := by
  with_unfolding_all
    rw [List.map_map]
    exact ForW.inv I xs [] h0 (fun a p x q ρ ha hp hI => hs p x q ρ (by rw [← hp, ha]; rfl) hI) (fun ρ h => he ρ h)
theorem mapD_n : ([] : List Tm).map toD = [] := rfl
theorem mapD_c {k : Kd} {d : D} {ts : List Tm} {xs : List D} (h : ts.map toD = xs) : (Tm.v k d :: ts).map toD = d :: xs := by rw [List.map_cons, toD_v, h]
theorem TW.tup2B {tgs : Tgs} {x y : D} (h : TsW tgs [.v .B x, .v .B y] ρ N) : TW (tgTup tgs) (.v .B (.tup [x, y])) ρ N := h
theorem TW.tup2F {tgs : Tgs} {x y : D} (h : TsW tgs [.v .F x, .v .F y] ρ N) : TW (tgTup tgs) (.v .F (.tup [x, y])) ρ N := h
theorem st1 {i : Nat} {is : List Nat} {ts : List Tm} {ρ1 ρ2 : Ss} (hl : isLoc t = false) (hi : i < ρ.length) (hs : ρ.set i (some t) = ρ1) (h : stAll is ts ρ1 = some ρ2) : stAll (i :: is) (t :: ts) ρ = some ρ2 := by
  subst hs
  simp only [stAll, hl, hi, and_self, if_true, h]
theorem st0 : stAll [] [] ρ = some ρ := rfl
theorem par1 {is : List Nat} {ts : List Tm} {ρ2 : Ss} (h : stAll is ts ρ = some ρ2) (n : N ρ2) : ∃ ρ2, stAll is ts ρ = some ρ2 ∧ N ρ2 := ⟨_, h, n⟩
theorem AddW.ll {k l : Kd} {xs ys : List D} (h1 : Is ρ t k (.lst xs)) (h2 : Is ρ u l (.lst ys)) (e1 : elk k xs = some xs) (e2 : elk l ys = some ys) (hz : xs.length + ys.length ≤ sizeLine) (p : P (.v .O (.lst (xs ++ ys))) ρ) : AddW t u ρ P := by
  refine ⟨_, _, _, h1, h2, ?_, p⟩
  simp only [opAdd, addV, e1, e2]
  first | rw [if_pos hz] | rfl
theorem elkO {xs : List D} : elk .O xs = some xs := rfl
theorem EW.list (h : EW g ρ (fun t ρ1 => ∃ k xs, (Is ρ1 t k (.lst xs) ∨ Is ρ1 t k (.tup xs)) ∧ elk k xs = some xs ∧ P (.v .O (.lst xs)) ρ1) X) : EW (eList g) ρ P X := by with_unfolding_all exact (EW.op1 (EW.imp h fun t ρ1 h => by
  obtain ⟨k, xs, h1 | h1, h2, h3⟩ := h
  · exact ⟨_, _, h1, by simp only [opList, h2, Option.map_some], h3⟩
  · exact ⟨_, _, h1, by simp only [opList, h2, Option.map_some], h3⟩))
theorem EW.tuple (h : EW g ρ (fun t ρ1 => ∃ k xs, (Is ρ1 t k (.lst xs) ∨ Is ρ1 t k (.tup xs)) ∧ elk k xs = some xs ∧ P (.v .F (.tup xs)) ρ1) X) : EW (eTuple g) ρ P X := by with_unfolding_all exact (EW.op1 (EW.imp h fun t ρ1 h => by
  obtain ⟨k, xs, h1 | h1, h2, h3⟩ := h
  · exact ⟨_, _, h1, by simp only [opTuple, h2, Option.map_some], h3⟩
  · exact ⟨_, _, h1, by simp only [opTuple, h2, Option.map_some], h3⟩))
theorem MulW.li {k l : Kd} {xs : List D} {n : Nat} (h1 : Is ρ t k (.lst xs)) (h2 : Is ρ u l (.int (n : Int))) (e1 : elk k xs = some xs) (hn : n < 9223372036854775808) (hz : xs.length * n ≤ sizeLine) (p : P (.v .O (.lst (List.replicate n xs).flatten)) ρ) : MulW t u ρ P := by
  refine ⟨_, _, _, h1, h2, ?_, p⟩
  simp only [opMul, mulV, e1, Int.toNat_natCast]
  rw [if_pos]
  refine ⟨?_, ?_, hz⟩
  · have : (0 : Int) ≤ n := by omega
    have h3 : -(2 ^ 63) ≤ (0 : Int) := by decide
    omega
  · have h3 : (2 : Int) ^ 63 = 9223372036854775808 := by decide
    omega
theorem EW.sum (h : EW g ρ (fun t ρ1 => ∃ k ns, Is ρ1 t k (lI ns) ∧ P (.v .F (.int ns.sum)) ρ1) X) : EW (eSum g) ρ P X := by with_unfolding_all exact (EW.op1 (EW.imp h fun t ρ1 h => by
  obtain ⟨k, ns, h1, h3⟩ := h
  exact rd1_is h1 (by simp only [dL1, intsD_lI, Option.bind_some, Option.map_some]) h3))
theorem EW.eq (h : EW ga ρ (fun t ρ1 => EW gb ρ1 (fun u ρ2 => ∃ k l x y r, Is ρ2 t k x ∧ Is ρ2 u l y ∧ eqD false x y = some r ∧ P (.v .F r) ρ2) X) X) : EW (eEq ga gb) ρ P X := by with_unfolding_all exact (EW.op2 (E2W.imp h fun t u ρ h => by
  obtain ⟨k, l, x, y, r, h1, h2, h3, h4⟩ := h
  exact rd2_is h1 h2 h3 h4))
theorem EW.ne (h : EW ga ρ (fun t ρ1 => EW gb ρ1 (fun u ρ2 => ∃ k l x y r, Is ρ2 t k x ∧ Is ρ2 u l y ∧ eqD true x y = some r ∧ P (.v .F r) ρ2) X) X) : EW (eNe ga gb) ρ P X := by with_unfolding_all exact (EW.op2 (E2W.imp h fun t u ρ h => by
  obtain ⟨k, l, x, y, r, h1, h2, h3, h4⟩ := h
  exact rd2_is h1 h2 h3 h4))
theorem eqD_int (i j : Int) : eqD false (.int i) (.int j) = some (.bl (decide (i = j))) := by
  simp [eqD, strD, eqP, toPy, SeqAt.shaped, PyData.canLay0, PyData.depth, PyData.eqv]
  first | done | rfl
theorem neD_int (i j : Int) : eqD true (.int i) (.int j) = some (.bl (decide (i ≠ j))) := by
  simp [eqD, strD, eqP, toPy, SeqAt.shaped, PyData.canLay0, PyData.depth, PyData.eqv]
  first | done | rfl
/-- a comprehension by what holds after each item -/
theorem CoW.inv {α : Type} {tg : Tg} {vs : List Nat} {inj : α → Tm} (I : List α → List D → Ss → Prop) : ∀ (xs pre : List α) (es : List D) (ρ : Ss), I pre es (wipeS ρ vs) →
    (∀ a p x q ds ρ, a = pre ++ xs → a = p ++ x :: q → I p ds ρ → TW tg (inj x) ρ fun ρ1 => EW test ρ1 (fun b ρ2 => BoW b (EW elt ρ2 (fun y ρ3 => FzD y fun d => ∃ ρ4, wipeS ρ3 vs = ρ4 ∧ I (p ++ [x]) (ds ++ [d]) ρ4) X0) (∃ ρ4, wipeS ρ2 vs = ρ4 ∧ I (p ++ [x]) ds ρ4)) X0) →
    ∃ ds ρ', compL tg test elt vs (xs.map inj) ρ = some (ds, ρ') ∧ I (pre ++ xs) (es ++ ds) ρ'
  | [], pre, es, ρ, h0, hs => by with_unfolding_all exact (⟨[], wipeS ρ vs, by simp only [List.map_nil, compL], by rw [List.append_nil, List.append_nil]; exact h0⟩)
  | x :: xs, pre, es, ρ, h0, hs => by
    with_unfolding_all
      obtain ⟨ρ1, e1, h1⟩ := hs _ pre x xs es _ rfl rfl h0
      obtain ⟨b, ρ2, e2, h2⟩ := EW.get h1
      obtain ⟨bb, eb, h2⟩ := h2.of
      have hs' : ∀ a p y q ds ρ, a = (pre ++ [x]) ++ xs → a = p ++ y :: q → I p ds ρ → TW tg (inj y) ρ fun ρ1 => EW test ρ1 (fun b ρ2 => BoW b (EW elt ρ2 (fun y' ρ3 => FzD y' fun d => ∃ ρ4, wipeS ρ3 vs = ρ4 ∧ I (p ++ [y]) (ds ++ [d]) ρ4) X0) (∃ ρ4, wipeS ρ2 vs = ρ4 ∧ I (p ++ [y]) ds ρ4)) X0 := fun a p y q ds ρ ha => hs a p y q ds ρ (by rw [ha, List.append_assoc]; rfl)
      cases bb with
      | true =>
        obtain ⟨y, ρ3, e3, d, e4, _, rfl, h3⟩ := EW.get (show EW elt ρ2 _ X0 from h2)
        obtain ⟨ds, ρ', e5, h4⟩ := CoW.inv I xs (pre ++ [x]) (es ++ [d]) ρ3 h3 hs'
        refine ⟨d :: ds, ρ', by simp only [List.map_cons, compL, e1, e2, eb, e3, e4, e5], ?_⟩
        rw [List.append_assoc, List.append_assoc] at h4
        exact h4
      | false =>
        obtain ⟨_, rfl, h3⟩ := h2
        obtain ⟨ds, ρ', e5, h4⟩ := CoW.inv I xs (pre ++ [x]) es ρ2 h3 hs'
        refine ⟨ds, ρ', by simp only [List.map_cons, compL, e1, e2, eb, e5], ?_⟩
        rw [List.append_assoc] at h4
        exact h4
theorem CoW.go {α : Type} {tg : Tg} {vs : List Nat} {inj : α → Tm} {K : List D → Ss → Prop} (I : List α → List D → Ss → Prop) (xs : List α) (h0 : ∃ ρ1, wipeS ρ vs = ρ1 ∧ I [] [] ρ1)
    (hs : ∀ p x q ds ρ, xs = p ++ x :: q → I p ds ρ → TW tg (inj x) ρ fun ρ1 => EW test ρ1 (fun b ρ2 => BoW b (EW elt ρ2 (fun y ρ3 => FzD y fun d => ∃ ρ4, wipeS ρ3 vs = ρ4 ∧ I (p ++ [x]) (ds ++ [d]) ρ4) X0) (∃ ρ4, wipeS ρ2 vs = ρ4 ∧ I (p ++ [x]) ds ρ4)) X0)
    (he : ∀ ds ρ, I xs ds ρ → K ds ρ) : CoW tg test elt vs (xs.map inj) ρ K := by
  with_unfolding_all
    obtain ⟨_, rfl, h0⟩ := h0
    obtain ⟨ds, ρ', e, h⟩ := CoW.inv I xs [] [] ρ h0 fun a p x q ds ρ ha hp => hs p x q ds ρ (by rw [← hp, ha]; rfl)
    exact ⟨ds, ρ', e, he ds ρ' h⟩
theorem wip1 {ρ1 : Ss} (h : ρ.set v none = ρ1) : wipeS ρ [v] = ρ1 := h
theorem CoW.data {α : Type} {tg : Tg} {vs : List Nat} {k : Kd} {f : α → D} {K : List D → Ss → Prop} (I : List α → List D → Ss → Prop) (xs : List α) (h0 : ∃ ρ1, wipeS ρ vs = ρ1 ∧ I [] [] ρ1)
    (hs : ∀ p x q ds ρ, xs = p ++ x :: q → I p ds ρ → TW tg (.v k (f x)) ρ fun ρ1 => EW test ρ1 (fun b ρ2 => BoW b (EW elt ρ2 (fun y ρ3 => FzD y fun d => ∃ ρ4, wipeS ρ3 vs = ρ4 ∧ I (p ++ [x]) (ds ++ [d]) ρ4) X0) (∃ ρ4, wipeS ρ2 vs = ρ4 ∧ I (p ++ [x]) ds ρ4)) X0)
    (he : ∀ ds ρ, I xs ds ρ → K ds ρ) : CoW tg test elt vs ((xs.map f).map (Tm.v k)) ρ K := by
  with_unfolding_all
    rw [List.map_map]
    exact CoW.go I xs h0 hs he
theorem wip2 {w : Nat} {ρ1 ρ2 : Ss} (h : ρ.set w none = ρ1) (h2 : ρ1.set v none = ρ2) : wipeS ρ [v, w] = ρ2 := by
  subst h
  exact h2
theorem rst2 {w : Nat} {ρ1 ρ2 ρ3 ρ4 : Ss} {o o2 : Option Tm} (h : ρ1[w]? = some o) (hs : ρ2.set w o = ρ3) (h2 : ρ1[v]? = some o2) (hs2 : ρ3.set v o2 = ρ4) : restS ρ1 ρ2 [v, w] = ρ4 := by
  subst hs hs2
  simp only [restS, h, h2]
/-- may be hidden by a comprehension -/
def Hid (o : Option Tm) : Prop := o = none ∨ ∃ d, o = some (.v .F d)
theorem Hid.ok {o : Option Tm} (h : Hid o) (e : ρ[v]? = some o) : hideOk ρ v = true := by
  unfold hideOk
  rw [e]
  rcases h with rfl | ⟨d, rfl⟩ <;> rfl
theorem Hid.all {o : Option Tm} (h : Hid o) (e : ρ[v]? = some o) : [v].all (hideOk ρ) = true := by simpa using h.ok e
/-- slices -/
def AsW (t : Tm) (ρ : Ss) (K : Option Int → Ss → Prop) : Prop := ∃ i, asI t = some i ∧ K (some i) ρ
@[irreducible] def OW (g : Option Ev) (ρ : Ss) (K : Option Int → Ss → Prop) (X : PX) : Prop := match g with
  | none => K none ρ
  | some g => EW g ρ (fun t ρ1 => ∃ i, asI t = some i ∧ K (some i) ρ1) X
theorem OW.go {go : Option Ev} {k : Option Int → Ss → Ou} (h : OW go ρ (fun i ρ1 => OuW (k i ρ1) P X) X) : OuW (evO go ρ k) P X := by
  with_unfolding_all
    cases go with
    | none => exact h
    | some g =>
      unfold evO
      refine OuW.bind (OuW.imp (show EW g ρ _ X from h) (fun t ρ1 h => ?_) fun _ _ h => h)
      obtain ⟨i, e, h⟩ := h
      rw [e]
      exact h
def SlW (t : Tm) (l h : Option Int) (ρ : Ss) (P : Tm → Ss → Prop) : Prop := ∃ x r, derT ρ t = some x ∧ opSl x l h = some r ∧ P r ρ
theorem OW.imp {go : Option Ev} {K K' : Option Int → Ss → Prop} (h : OW go ρ K X) (i : ∀ j ρ, K j ρ → K' j ρ) : OW go ρ K' X := by
  with_unfolding_all
    cases go with
    | none => exact i _ _ h
    | some g => exact EW.imp h fun t ρ1 h => by obtain ⟨j, e, h⟩ := h; exact ⟨j, e, i _ _ h⟩
theorem EW.sl {gl gh : Option Ev} (h : EW g ρ (fun t ρ1 => OW gl ρ1 (fun l ρ2 => OW gh ρ2 (fun h ρ3 => SlW t l h ρ3 P) X) X) X) : EW (eSl g gl gh) ρ P X := by
  with_unfolding_all
    unfold EW eSl
    refine OuW.bind (OuW.imp h (fun t ρ1 h => OW.go (OW.imp h fun l ρ2 h => OW.go (OW.imp h fun hh ρ3 h => ?_))) fun _ _ h => h)
    obtain ⟨x, r, h1, h2, h3⟩ := h
    simp only [h1, h2]
    exact h3
theorem OW.none {K : Option Int → Ss → Prop} (h : K none ρ) : OW none ρ K X := by with_unfolding_all exact (h)
theorem OW.someI {K : Option Int → Ss → Prop} (h : EW g ρ (fun t ρ1 => AsW t ρ1 K) X) : OW (some g) ρ K X := by with_unfolding_all exact (h)
theorem asI4 {k : Kd} {i : Int} {K : Option Int → Ss → Prop} (h : K (some i) ρ) : AsW (.v k (.int i)) ρ K := ⟨i, rfl, h⟩
theorem SlW.lst {k : Kd} {xs ys : List D} {l h : Option Int} (h1 : Is ρ t k (.lst xs)) (e : elk k xs = some xs) (hc : cutD xs l h = ys) (p : P (.v .O (.lst ys)) ρ) : SlW t l h ρ P := ⟨_, _, h1, by simp only [opSl, slV, e, Option.map_some, hc], p⟩
theorem O1W.of {f : Tm → Option Tm} {x r : Tm} (h1 : derT ρ t = some x) (h2 : f x = some r) (p : P r ρ) : O1W f t ρ P := ⟨x, r, h1, h2, p⟩
theorem EW.isN (h : EW ga ρ (fun t ρ1 => EW gb ρ1 (fun u ρ2 => ∃ k l x, Is ρ2 t k x ∧ Is ρ2 u l .non ∧ P (.v .F (.bl (isNon x))) ρ2) X) X) : EW (eIsN ga gb) ρ P X := by with_unfolding_all exact (EW.op2 (E2W.imp h fun t u ρ h => by
  obtain ⟨k, l, x, h1, h2, h3⟩ := h
  exact rd2_is h1 h2 rfl h3))
end
end PV

namespace PV
open PySem L2
section
variable {ρ : Ss} {P P' : Tm → Ss → Prop} {X X' : PX} {g ga gb gc g0 test elt gn : Ev} {gs gk : Ss → OuL} {N N' : Ss → Prop} {R R' : Tm → Ss → Prop} {B C B' C' : Ss → Prop} {t u : Tm} {PL PL' : List Tm → Ss → Prop} {it : Iv} {v : Nat}
theorem EW.sumA (h : EW g ρ (fun t ρ1 => ∃ k ns d, Is ρ1 t k d ∧ (d = lI ns ∨ d = .tup (ns.map .int)) ∧ P (.v .F (.int ns.sum)) ρ1) X) : EW (eSumA g) ρ P X := EW.op1 (EW.imp h fun t ρ1 h => by
  obtain ⟨k, ns, d, h1, rfl | rfl, h3⟩ := h
  · exact rd1_is h1 (by simp only [sumD, intsD_lI, Option.map_some]) h3
  · exact rd1_is h1 (by simp only [sumD, intsD_lI, Option.map_some]) h3)
/-- repr -/
def RpW (t : Tm) (ρ : Ss) (P : Tm → Ss → Prop) : Prop := O1W (rd1 reprD) t ρ P
theorem RpW.go {k : Kd} {d : D} {x : Str} (h1 : Is ρ t k d) (h2 : reprD d = some (.str x)) (p : P (.v .F (.str x)) ρ) : RpW t ρ P := rd1_is h1 h2 p
theorem neD_str (a b : Str) : eqD true (.str a) (.str b) = some (.bl (decide (a ≠ b))) := by
  simp only [eqD, strD, if_true, decide_not]
theorem eqD_str (a b : Str) : eqD false (.str a) (.str b) = some (.bl (decide (a = b))) := by
  simp only [eqD, strD, Bool.false_eq_true, if_false]
theorem shp_lints (ns : List Int) : SeqAt.shaped (.list (ns.map .int)) = true := by
  simp [SeqAt.shaped, PyData.canLay0, PyData.depth]
theorem neD_lints (ns ms : List Int) : eqD true (lI ns) (lI ms) = some (.bl (decide (ns ≠ ms))) := by
  simp only [eqD, strD, eqP, toPy, toPys_ints, Option.map_some, shp_lints, and_self, if_true, PyData.eqv, eqv_ints, decide_not]
/-- xs += e -/
def ExtW (i : Nat) (t : Tm) (ρ : Ss) (N : Ss → Prop) : Prop := ∃ xs ys, ρ[i]? = some (some (.v .O (.lst xs))) ∧ ((t = .v .F (.tup ys) ∨ t = .v .F (.lst ys) ∨ t = .v .O (.lst ys)) ∨ ((t = .v .B (.tup ys) ∨ t = .v .B (.lst ys)) ∧ elk .B ys = some ys)) ∧ (xs ++ ys).length ≤ sizeLine ∧ ∃ ρ2, ρ.set i (some (.v .O (.lst (xs ++ ys)))) = ρ2 ∧ N ρ2
theorem SW.ext {i : Nat} {zs : List D} (h0 : ρ[i]? = some (some (.v .O (.lst zs)))) (h : EW g ρ (fun t ρ1 => ExtW i t ρ1 N) X) : SW (sExt i g) ρ N R B C X := by
  with_unfolding_all
    unfold SW sExt
    simp only [h0]
    refine OuW.toF (OuW.imp h (fun t ρ1 h => ?_) fun _ _ h => h)
    obtain ⟨xs, ys, h1, h2, h3, _, rfl, h⟩ := h
    rcases h2 with (rfl | rfl | rfl) | ⟨rfl | rfl, e⟩
    · simp only [h1, opExt, elk, Option.map_some]; rw [if_pos h3]; exact h
    · simp only [h1, opExt, elk, Option.map_some]; rw [if_pos h3]; exact h
    · simp only [h1, opExt, elk, Option.map_some]; rw [if_pos h3]; exact h
    · simp only [h1, opExt, e, Option.map_some]; rw [if_pos h3]; exact h
    · simp only [h1, opExt, e, Option.map_some]; rw [if_pos h3]; exact h
theorem ExtW.F {i : Nat} {xs ys : List D} {ρ2 : Ss} (h1 : ρ[i]? = some (some (.v .O (.lst xs)))) (hz : (xs ++ ys).length ≤ sizeLine) (hs : ρ.set i (some (.v .O (.lst (xs ++ ys)))) = ρ2) (h : N ρ2) : ExtW i (.v .F (.tup ys)) ρ N := ⟨xs, ys, h1, .inl (.inl rfl), hz, _, hs, h⟩
/-- xs[e] += n -/
theorem SW.augSub {i : Nat} {gi : Ev} {f : Int → Int → Int} (hl : isLs ρ i = true) (h : EW gi ρ (fun u ρ1 => ∃ k kk xs m, u = .v kk (.int k) ∧ ρ1[i]? = some (some (.v .O (.lst xs))) ∧ atI xs k = some (.int m) ∧ EW g ρ1 (fun w ρ2 => ∃ n kn ys j, w = .v kn (.int n) ∧ ρ2[i]? = some (some (.v .O (.lst ys))) ∧ ixN ys.length k = some j ∧ ∃ ρ3, ρ2.set i (some (.v .O (.lst (ys.set j (.int (f m n)))))) = ρ3 ∧ N ρ3) X) X) : SW (sAugSub i gi f g) ρ N R B C X := by
  with_unfolding_all
    unfold SW sAugSub
    rw [if_pos hl]
    refine OuW.toF (OuW.imp h (fun u ρ1 h => ?_) fun _ _ h => h)
    obtain ⟨k, kk, xs, m, rfl, h1, h2, h⟩ := h
    simp only [asI_v, h1, h2]
    refine OuW.toF (OuW.imp h (fun w ρ2 h => ?_) fun _ _ h => h)
    obtain ⟨n, kn, ys, j, rfl, h3, h4, _, rfl, h⟩ := h
    simp only [asI_v, h3, h4]
    exact h
theorem IW.zip (h : EW ga ρ (fun t ρ1 => EW gb ρ1 (fun u ρ2 => ∃ ts, itemsZip t u = some ts ∧ PL ts ρ2) X) X) : IW (itZip ga gb) ρ PL X := by
  with_unfolding_all
    unfold IW itZip
    refine OuW.bindL (OuW.imp h (fun t ρ1 h => OuW.bindL (OuW.imp h (fun u ρ2 h => ?_) fun _ _ h => h)) fun _ _ h => h)
    obtain ⟨ts, e, h⟩ := h
    rw [e]
    exact h
theorem EW.tupR {b : Bool} (h : EW ga ρ (fun t ρ1 => EW gb ρ1 (fun u ρ2 => ∃ k l i j r, Is ρ2 t k (.int i) ∧ Is ρ2 u l (.int j) ∧ opRg b (.v k (.int i)) (.v l (.int j)) = some r ∧ P r ρ2) X) X) : EW (eTupR b ga gb) ρ P X := EW.op2 (E2W.imp h fun t u ρ h => by
  obtain ⟨k, l, i, j, r, h1, h2, h3, h4⟩ := h
  exact ⟨_, _, r, h1, h2, h3, h4⟩)
theorem EW.neg (h : EW g ρ (fun t ρ1 => I1W t ρ1 fun i => P (.v .F (.int (-i))) ρ1) X) : EW (eNeg g) ρ P X := EW.op1 (EW.imp h fun t ρ1 h => by
  obtain ⟨i, k, h1, h2⟩ := h
  exact rd1_is h1 rfl h2)
/-- for x in A for u in range(n) -/
def CrW (tgt : Tg) (gn : Ev) (tgt1 : Tg) (elt : Ev) (vs vs1 : List Nat) (ts : List Tm) (ρ : Ss) (K : List D → Ss → Prop) : Prop := ∃ ds ρ', compR tgt gn tgt1 elt vs vs1 ts ρ = some (ds, ρ') ∧ K ds ρ'
theorem EW.compR {tgt tgt1 : Tg} {vs vs1 : List Nat} (h : IW it ρ (fun ts ρ1 => vs.all (hideOk ρ1) = true ∧ CrW tgt gn tgt1 elt vs vs1 ts ρ1 fun ds ρ2 => ds.length ≤ sizeLine ∧ ∃ ρ3, restS ρ1 ρ2 vs = ρ3 ∧ P (.v .O (.lst ds)) ρ3) X) : EW (eCompR it vs tgt gn vs1 tgt1 elt) ρ P X := by
  with_unfolding_all
    unfold EW eCompR
    unfold IW at h
    cases e : it ρ with
    | ok ts ρ1 =>
      rw [e] at h
      obtain ⟨h1, ds, ρ2, h2, h3, _, rfl, h4⟩ := h
      dsimp only
      rw [if_pos h1, h2]
      dsimp only
      rw [if_pos h3]
      exact h4
    | ex e' ρ1 => rw [e] at h; exact h
    | no => rw [e] at h; exact h
theorem CrW.nil {tgt tgt1 : Tg} {vs vs1 : List Nat} {K : List D → Ss → Prop} {ρ1 : Ss} (hw : wipeS ρ vs = ρ1) (h : K [] ρ1) : CrW tgt gn tgt1 elt vs vs1 [] ρ K := ⟨[], ρ1, by simp only [PV.compR, hw], h⟩
theorem CrW.cons {tgt tgt1 : Tg} {vs vs1 : List Nat} {K : List D → Ss → Prop} {ρ1 : Ss} {ts : List Tm} (hw : wipeS ρ vs = ρ1)
    (h : TW tgt t ρ1 fun ρ2 => EW gn ρ2 (fun n ρ3 => R1W n fun j => CoW tgt1 eTrue elt vs1 (rngL 0 j.toNat) ρ3 fun ds1 ρ4 => CrW tgt gn tgt1 elt vs vs1 ts ρ4 fun ds ρ5 => K (ds1 ++ ds) ρ5) X0) : CrW tgt gn tgt1 elt vs vs1 (t :: ts) ρ K := by
  obtain ⟨ρ2, e2, h⟩ := h
  obtain ⟨n, ρ3, e3, j, e4, hb, ds1, ρ4, e5, ds, ρ5, e6, h⟩ := EW.get h
  subst hw
  refine ⟨_, _, ?_, h⟩
  simp only [PV.compR, e2, e3, e4]
  rw [if_pos hb, e5]
  simp only [e6]
theorem filt_true {α : Type} (xs : List α) : (xs.filter fun _ => true) = xs := by simp
theorem set_back {ρ : Ss} {v : Nat} (h : ρ[v]? = some none) : ρ.set v none = ρ := by
  obtain ⟨hl, e⟩ := List.getElem?_eq_some_iff.mp h
  rw [← e]
  exact List.set_getElem_self hl
/-- for a, b in pairs: the parts of each pair, no effects, the two names as they were -/
theorem EW.pairs {α : Type} {k : Kd} {f1 f2 : α → D} {v w : Nat} (r : α → D) (hvw : v ≠ w) (h : IW it ρ (fun ts ρ1 => ∃ xs : List α, ts = (xs.map fun x => D.tup [f1 x, f2 x]).map (subK k) ∧ [v, w].all (hideOk ρ1) = true ∧ ρ1[v]? = some none ∧ ρ1[w]? = some none ∧ xs.length ≤ sizeLine ∧
    (∀ x ∈ xs, ∃ ρ2 ρ3, ρ1.set v (some (subK k (f1 x))) = ρ2 ∧ ρ2.set w (some (subK k (f2 x))) = ρ3 ∧ EW elt ρ3 (fun t ρ4 => FzD t fun d => d = r x ∧ ρ4 = ρ3) X0) ∧ P (.v .O (.lst (xs.map r))) ρ1) X) : EW (eComp it [v, w] (tgTup (tgsCons (tgN v) (tgsCons (tgN w) tgsNil))) eTrue elt) ρ P X := by
  refine EW.comp ?_
  unfold IW at h ⊢
  cases e : it ρ with
  | no => rw [e] at h; exact h
  | ex a b => rw [e] at h; exact h
  | ok ts ρ1 =>
    rw [e] at h
    obtain ⟨xs, rfl, ha, h1, h2, hz, he, hp⟩ := h
    have l1 := (List.getElem?_eq_some_iff.mp h1).1
    have l2 := (List.getElem?_eq_some_iff.mp h2).1
    refine ⟨ha, ?_⟩
    have hw0 : wipeS ρ1 [v, w] = ρ1 := by
      show (ρ1.set w none).set v none = ρ1
      rw [set_back h2, set_back h1]
    rw [List.map_map]
    refine CoW.go (inj := subK k ∘ fun x => D.tup [f1 x, f2 x]) (fun p es ρ => ρ = ρ1 ∧ es = p.map r) xs ⟨_, hw0, rfl, rfl⟩ ?_ ?_
    · rintro p x q es ρ hpx ⟨rfl, rfl⟩
      obtain ⟨_, _, rfl, rfl, h3⟩ := he x (by rw [hpx]; simp)
      have hk : ∀ d : D, isLoc (subK k d) = false := fun d => by cases k <;> rfl
      have hback : wipeS ((ρ.set v (some (subK k (f1 x)))).set w (some (subK k (f2 x)))) [v, w] = ρ := by
        show ((((ρ.set v _).set w _).set w none).set v none) = ρ
        rw [List.set_set, List.set_comm _ _ hvw, List.set_set, set_back h2, set_back h1]
      refine ⟨(ρ.set v (some (subK k (f1 x)))).set w (some (subK k (f2 x))), ?_, ?_⟩
      · have e1 : tgTup (tgsCons (tgN v) (tgsCons (tgN w) tgsNil)) (subK k (D.tup [f1 x, f2 x])) ρ = tgsCons (tgN v) (tgsCons (tgN w) tgsNil) [subK k (f1 x), subK k (f2 x)] ρ := by cases k <;> rfl
        show tgTup _ (subK k (D.tup [f1 x, f2 x])) ρ = _
        rw [e1]
        simp only [tgsCons_eq, tgN_eq, hk, l1, l2, List.length_set, and_self, if_true, Option.bind_some, tgsNil_eq]
      · refine EW.tr (BoW.tt ?_)
        refine EW.imp h3 fun t ρ4 h4 => ?_
        obtain ⟨d, hd, rfl, rfl⟩ := h4
        exact ⟨_, hd, _, hback, rfl, by rw [List.map_append]; rfl⟩
    · rintro es ρ ⟨rfl, rfl⟩
      refine ⟨by rw [List.length_map]; exact hz, ρ, ?_, hp⟩
      exact rst2 h2 (set_back h2) h1 (set_back h1)
abbrev rgI (n : Nat) : List Int := (List.range n).map fun i : Nat => (i : Int)
theorem opRg_n {b : Bool} {k l : Kd} {n : Nat} (hn : n ≤ 100000) : opRg b (.v k (.int 0)) (.v l (.int (n : Int))) = some (if b = true then .v .F (.tup ((rgI n).map .int)) else .v .O (lI (rgI n))) := by
  have e : rgD 0 (n : Int) = (rgI n).map .int := by
    unfold rgD rgI
    rw [List.map_map, show ((n : Int) - 0).toNat = n by omega]
    refine List.map_congr_left fun i _ => ?_
    simp
  have hb : rgB 0 (n : Int) = true := by
    unfold rgB
    rw [decide_eq_true_iff]
    have h1 : -(2 ^ 62) ≤ (0 : Int) ∧ (100000 : Int) < 2 ^ 62 ∧ (100000 : Nat) ≤ 2 ^ 24 := by decide
    omega
  unfold opRg
  simp only [toD_v, hb, e, if_true]
theorem FzW.ob {c : Nat} {ts : List Tm} (h : FzsW ts fun ds => P (.v .F (.ins c ds)) ρ) : FzW (.ob c ts) ρ P := by
  with_unfolding_all
    obtain ⟨ds, e, h⟩ := h
    have e2 : frz (.ob c ts) = some (.ins c ds) := by rw [PV.frz, e]; rfl
    unfold FzW eF1
    simp only [e2]
    exact h
theorem set_same {ρ : Ss} {v : Nat} {o : Option Tm} (h : ρ[v]? = some o) : ρ.set v o = ρ := by
  obtain ⟨hl, e⟩ := List.getElem?_eq_some_iff.mp h
  rw [← e]
  exact List.set_getElem_self hl
/-- the same where the two names hold something -/
theorem EW.pairs2 {α : Type} {k : Kd} {f1 f2 : α → D} {v w : Nat} (r : α → D) (hvw : v ≠ w) (h : IW it ρ (fun ts ρ1 => ∃ xs : List α, ts = (xs.map fun x => D.tup [f1 x, f2 x]).map (subK k) ∧ hideOk ρ1 v = true ∧ hideOk ρ1 w = true ∧ xs.length ≤ sizeLine ∧
    (∀ x ∈ xs, ∃ ρ2 ρ3, ρ1.set v (some (subK k (f1 x))) = ρ2 ∧ ρ2.set w (some (subK k (f2 x))) = ρ3 ∧ EW elt ρ3 (fun t ρ4 => FzD t fun d => d = r x ∧ ρ4 = ρ3) X0) ∧ P (.v .O (.lst (xs.map r))) ρ1) X) : EW (eComp it [v, w] (tgTup (tgsCons (tgN v) (tgsCons (tgN w) tgsNil))) eTrue elt) ρ P X := by
  refine EW.comp ?_
  unfold IW at h ⊢
  cases e : it ρ with
  | no => rw [e] at h; exact h
  | ex a b => rw [e] at h; exact h
  | ok ts ρ1 =>
    rw [e] at h
    obtain ⟨xs, rfl, a1, a2, hz, he, hp⟩ := h
    obtain ⟨o1, h1⟩ := hide_at a1
    obtain ⟨o2, h2⟩ := hide_at a2
    have l1 := (List.getElem?_eq_some_iff.mp h1).1
    have l2 := (List.getElem?_eq_some_iff.mp h2).1
    refine ⟨by simp [a1, a2], ?_⟩
    rw [List.map_map]
    refine CoW.go (inj := subK k ∘ fun x => D.tup [f1 x, f2 x]) (fun p es ρ => ρ = (ρ1.set w none).set v none ∧ es = p.map r) xs ⟨_, rfl, rfl, rfl⟩ ?_ ?_
    · rintro p x q es ρ hpx ⟨rfl, rfl⟩
      obtain ⟨_, _, rfl, rfl, h3⟩ := he x (by rw [hpx]; simp)
      have hk : ∀ d : D, isLoc (subK k d) = false := fun d => by cases k <;> rfl
      have e0 : (((ρ1.set w none).set v none).set v (some (subK k (f1 x)))).set w (some (subK k (f2 x))) = (ρ1.set v (some (subK k (f1 x)))).set w (some (subK k (f2 x))) := by
        rw [List.set_set, List.set_comm _ _ hvw.symm, List.set_set]
      have hback : wipeS ((ρ1.set v (some (subK k (f1 x)))).set w (some (subK k (f2 x)))) [v, w] = (ρ1.set w none).set v none := by
        show ((((ρ1.set v _).set w _).set w none).set v none) = _
        rw [List.set_set, List.set_comm _ _ hvw, List.set_set]
      refine ⟨(ρ1.set v (some (subK k (f1 x)))).set w (some (subK k (f2 x))), ?_, ?_⟩
      · have e1 : ∀ ρ, tgTup (tgsCons (tgN v) (tgsCons (tgN w) tgsNil)) (subK k (D.tup [f1 x, f2 x])) ρ = tgsCons (tgN v) (tgsCons (tgN w) tgsNil) [subK k (f1 x), subK k (f2 x)] ρ := fun ρ => by cases k <;> rfl
        show tgTup _ (subK k (D.tup [f1 x, f2 x])) _ = _
        rw [e1]
        simp only [tgsCons_eq, tgN_eq, hk, l1, l2, List.length_set, and_self, if_true, Option.bind_some, tgsNil_eq, e0]
      · refine EW.tr (BoW.tt ?_)
        refine EW.imp h3 fun t ρ4 h4 => ?_
        obtain ⟨d, hd, rfl, rfl⟩ := h4
        exact ⟨_, hd, _, hback, rfl, by rw [List.map_append]; rfl⟩
    · rintro es ρ ⟨rfl, rfl⟩
      refine ⟨by rw [List.length_map]; exact hz, ρ1, rst2 h2 rfl h1 ?_, hp⟩
      rw [List.set_comm _ _ hvw, List.set_set, List.set_set, set_same h2, set_same h1]
theorem cut_to {α : Type} (xs : List α) (k : Nat) : cutD xs none (some (k : Int)) = xs.take k := by
  unfold cutD
  rw [HT.sIx_nat, HT.sIx_none, List.drop_zero, Nat.sub_zero]
  rcases Nat.le_total k xs.length with h | h
  · rw [Nat.min_eq_left h]
  · rw [Nat.min_eq_right h, List.take_of_length_le h, List.take_of_length_le (Nat.le_refl _)]
end
end PV

namespace PV
open PySem L2
section
variable {ρ : Ss} {P P' : Tm → Ss → Prop} {X X' : PX} {g ga gb gc g0 test elt gn : Ev} {gs gk : Ss → OuL} {N N' : Ss → Prop} {R R' : Tm → Ss → Prop} {B C B' C' : Ss → Prop} {t u : Tm} {PL PL' : List Tm → Ss → Prop} {it : Iv} {v : Nat}
@[irreducible] def CaKW (f : Fn) (ms : List Md) (t0 : Tm) (ts us : List Tm) (dfl : List D) (ρ : Ss) (P : Tm → Ss → Prop) (X : PX) : Prop := CaW f ms (t0 :: (ts ++ us ++ dfl.map (Tm.v .F))) ρ P X
end
end PV

namespace PV
open PySem L2
section
variable {ρ : Ss} {P P' : Tm → Ss → Prop} {X X' : PX} {g ga gb gc g0 : Ev} {gs gk : Ss → OuL} {N N' : Ss → Prop} {R R' : Tm → Ss → Prop} {B C B' C' : Ss → Prop} {t u : Tm} {PL PL' : List Tm → Ss → Prop} {v : Nat} {it : Iv}
theorem EW.strI (h : EW g ρ (fun t ρ1 => ∃ k i, Is ρ1 t k (.int i) ∧ i.natAbs.log2 < 1920 ∧ P (.v .F (.str (toString i))) ρ1) X) : EW (eStrI g) ρ P X := EW.op1 (EW.imp h fun t ρ1 h => by
  obtain ⟨k, i, h1, h2, h3⟩ := h
  exact rd1_is h1 (by simp only [strID, if_pos h2]) h3)
theorem EW.all (h : EW g ρ (fun t ρ1 => ∃ (k : Kd) (bs : List Bool), Is ρ1 t k (.lst (bs.map .bl)) ∧ P (.v .F (.bl (bs.all id))) ρ1) X) : EW (eAll g) ρ P X := EW.op1 (EW.imp h fun t ρ1 h => by
  obtain ⟨k, bs, h1, h3⟩ := h
  exact rd1_is h1 (by simp only [allD, bsD_map, Option.map_some]) h3)
def SoW (t : Tm) (ρ : Ss) (P : Tm → Ss → Prop) : Prop := O1W opSort2 t ρ P
theorem SoW.ints {k : Kd} {ns : List Int} {d : D} (h1 : Is ρ t k d) (h2 : d = lI ns ∨ d = .tup (ns.map .int)) (p : P (.v .O (lI (isort ns))) ρ) : SoW t ρ P := by
  refine ⟨_, _, h1, ?_, p⟩
  rcases h2 with rfl | rfl <;> simp only [opSort2, opSort, toD_v, intsD_map, Option.map_some]
theorem EW.join (h : EW ga ρ (fun t ρ1 => ∃ z, (derT ρ1 t).bind asS = some z ∧ EW gb ρ1 (fun u ρ2 => ∃ (k : Kd) (ys : List PySem.Str), Is ρ2 u k (.lst (ys.map .str)) ∧ (ys.map (·.length)).sum + ys.length * z.length ≤ 16777216 ∧ P (.v .F (.str (Txt.join z ys))) ρ2) X) X) : EW (eJoin ga gb) ρ P X := by
  with_unfolding_all
    unfold EW eJoin
    refine OuW.bind (OuW.imp h (fun t ρ1 h => ?_) fun _ _ h => h)
    obtain ⟨z, e, h⟩ := h
    rw [e]
    refine OuW.bind (OuW.imp h (fun u ρ2 h => ?_) fun _ _ h => h)
    obtain ⟨k, ys, h1, h2, h3⟩ := h
    have e2 : (derT ρ2 u).bind (joinO z) = some (.v .F (.str (Txt.join z ys))) := by
      rw [show derT ρ2 u = _ from h1, Option.bind_some]
      simp only [joinO, toD_v, strsD_map, Option.bind_some, if_pos h2]
    rw [e2]
    exact h3
theorem EW.strO {c : Nat} {f : Fn} {ms : List Md} (h : EW g0 ρ (fun t0 ρ1 => isOb c (derT ρ1 t0) = true ∧ CaW f ms [t0] ρ1 (fun t ρ2 => isStrT t = true ∧ P t ρ2) X0) X) : EW (eStrO c f ms g0) ρ P X := by
  with_unfolding_all
    unfold EW eStrO
    refine OuW.bind (OuW.imp h (fun t0 ρ1 h => ?_) fun _ _ h => h)
    obtain ⟨h1, h2⟩ := h
    rw [if_pos h1]
    unfold CaW at h2
    cases e : callF f ms [t0] ρ1 with
    | ok t ρ2 =>
      rw [e] at h2
      obtain ⟨h2, h3⟩ := h2
      dsimp only
      rw [if_pos h2]
      exact h3
    | ex e' ρ2 => rw [e] at h2; exact h2.elim
    | no => rw [e] at h2; exact h2.elim
end
end PV

namespace PV
open PySem L2
section
variable {ρ : Ss} {P P' : Tm → Ss → Prop} {X X' : PX} {g ga gb gc g0 : Ev} {gs gk : Ss → OuL} {N N' : Ss → Prop} {R R' : Tm → Ss → Prop} {B C B' C' : Ss → Prop} {t u : Tm} {PL PL' : List Tm → Ss → Prop} {v : Nat} {it : Iv}
/-! while -/
theorem AddW.ss {a b : PySem.Str} {k l : Kd} (h1 : Is ρ t k (.str a)) (h2 : Is ρ u l (.str b)) (hz : a.length + b.length ≤ sizeLine) (p : P (.v .F (.str (a ++ b))) ρ) : AddW t u ρ P := by
  refine ⟨_, _, _, h1, h2, ?_, p⟩
  simp only [opAdd, addV, if_pos hz]
/-! == of encoded data -/
structure Enc {α : Type} [DecidableEq α] (f : α → D) (g : α → PyData) (n : Nat) : Prop where
  py : ∀ a, toPy (f a) = some (g a)
  eq : ∀ a b, PyData.eqv (g a) (g b) = decide (a = b)
  lay : ∀ a, (g a).canLay0 = true
  dep : ∀ a, (g a).depth ≤ n
  ns : ∀ a, strD (f a) = none
section
variable {α β : Type} [DecidableEq α] [DecidableEq β] {f : α → D} {gp : α → PyData} {n : Nat} {f' : β → D} {gp' : β → PyData} {m : Nat}
theorem Enc.int : Enc D.int PyData.int 0 := ⟨fun _ => rfl, fun a b => by simp [PyData.eqv]; first | done | rfl, fun _ => by simp [PyData.canLay0], fun _ => by simp [PyData.depth], fun _ => rfl⟩
theorem toPys_map (e : Enc f gp n) : ∀ as : List α, toPys (as.map f) = some (as.map gp)
  | [] => rfl
  | a :: as => by simp only [List.map_cons, toPys, e.py, toPys_map e as]
theorem eqvAll_map (e : Enc f gp n) : ∀ as bs : List α, PyData.eqvAll (as.map gp) (bs.map gp) = decide (as = bs)
  | [], [] => by simp [PyData.eqvAll]
  | [], b :: bs => by simp [PyData.eqvAll]
  | a :: as, [] => by simp [PyData.eqvAll]
  | a :: as, b :: bs => by
    simp only [List.map_cons, PyData.eqvAll, e.eq, eqvAll_map e as bs]
    by_cases h1 : a = b <;> by_cases h2 : as = bs <;> simp [h1, h2]
theorem layAll_map (e : Enc f gp n) : ∀ as : List α, PyData.canLayAll0 (as.map gp) = true
  | [] => by simp [PyData.canLayAll0]
  | a :: as => by simp only [List.map_cons, PyData.canLayAll0, e.lay, layAll_map e as, Bool.and_self]
theorem depAll_map (e : Enc f gp n) : ∀ as : List α, PyData.depthAll (as.map gp) ≤ n
  | [] => by simp [PyData.depthAll]
  | a :: as => by
    have := e.dep a
    have := depAll_map e as
    simp only [List.map_cons, PyData.depthAll]
    omega
theorem Enc.lst (e : Enc f gp n) : Enc (fun as : List α => D.lst (as.map f)) (fun as => PyData.list (as.map gp)) (n + 1) :=
  ⟨fun as => by simp only [toPy, toPys_map e, Option.map_some], fun a b => by rw [PyData.eqv, eqvAll_map e], fun as => by rw [PyData.canLay0, layAll_map e], fun as => by rw [PyData.depth]; have := depAll_map e as; omega, fun _ => rfl⟩
theorem Enc.tup (e : Enc f gp n) : Enc (fun as : List α => D.tup (as.map f)) (fun as => PyData.tuple (as.map gp)) (n + 1) :=
  ⟨fun as => by simp only [toPy, toPys_map e, Option.map_some], fun a b => by rw [PyData.eqv, eqvAll_map e], fun as => by rw [PyData.canLay0, layAll_map e], fun as => by rw [PyData.depth]; have := depAll_map e as; omega, fun _ => rfl⟩
end
end
end PV

namespace PV
open PySem L2
section
variable {ρ : Ss} {P P' : Tm → Ss → Prop} {X X' : PX} {g ga gb gc gd g0 : Ev} {gs gk : Ss → OuL} {N N' : Ss → Prop} {R R' : Tm → Ss → Prop} {B C B' C' : Ss → Prop} {t u w : Tm} {PL PL' : List Tm → Ss → Prop} {v : Nat} {it : Iv}
theorem IW.enA (h : EW g ρ (fun t ρ1 => ∃ ts, itemsEnA t = some ts ∧ PL ts ρ1) X) : IW (itEnA g) ρ PL X := by
  with_unfolding_all
    unfold IW itEnA
    refine OuW.bindL (OuW.imp h (fun t ρ1 h => ?_) fun _ _ h => h)
    obtain ⟨ts, e, h⟩ := h
    rw [e]
    exact h
/-! chains of ≤ over ints -/
abbrev leF : Tm → Tm → Option Tm := rd2 (dC2 fun i j => decide (i ≤ j))
/-! in over data -/
theorem EW.inE (h : EW ga ρ (fun t ρ1 => EW gb ρ1 (fun u ρ2 => ∃ k l x y r, Is ρ2 t k x ∧ Is ρ2 u l y ∧ PV.inE false x y = some r ∧ P (.v .F r) ρ2) X) X) : EW (eInE ga gb) ρ P X := by with_unfolding_all exact (EW.op2 (E2W.imp h fun t u ρ h => by
  obtain ⟨k, l, x, y, r, h1, h2, h3, h4⟩ := h
  exact rd2_is h1 h2 h3 h4))
def Rp2W (t : Tm) (ρ : Ss) (P : Tm → Ss → Prop) : Prop := O1W (rd1 reprD2) t ρ P
theorem EW.repr2 (h : EW g ρ (fun t ρ1 => Rp2W t ρ1 P) X) : EW (eRepr2 g) ρ P X := EW.op1 h
theorem Rp2W.bl {k : Kd} {b : Bool} (h1 : Is ρ t k (.bl b)) (p : P (.v .F (.str (boS b))) ρ) : Rp2W t ρ P := rd1_is h1 rfl p
theorem Rp2W.int {k : Kd} {i : Int} (h1 : Is ρ t k (.int i)) (h2 : i.natAbs.log2 < 1920) (p : P (.v .F (.str (toString i))) ρ) : Rp2W t ρ P := rd1_is h1 (by simp only [reprD2, reprD, toPy, if_pos h2]) p
theorem Rp2W.go {k : Kd} {d : D} {x : Str} (h1 : Is ρ t k d) (h2 : reprD2 d = some (.str x)) (p : P (.v .F (.str x)) ρ) : Rp2W t ρ P := rd1_is h1 h2 p
theorem EW.nm {op : List D → List D → Option (D × List D)} (h : EW g ρ (fun t ρ1 => ∃ xs, t = .v .O (.lst xs) ∧ AW gs ρ1 (fun ts ρ2 => FzsW ts fun ds => ∃ x xs', op xs ds = some (x, xs') ∧ xs'.length ≤ sizeLine ∧ P (.v .F x) ρ2) X) X) : EW (eNm op g gs) ρ P X := by
  with_unfolding_all
    unfold EW eNm
    refine OuW.bind (OuW.imp h (fun t ρ1 h => ?_) fun _ _ h => h)
    obtain ⟨xs, rfl, h⟩ := h
    dsimp only
    refine OlW.bind (OlW.imp h fun ts ρ1 h => ?_)
    obtain ⟨ds, e1, x, xs', e2, e3, h⟩ := h
    simp only [e1, e2]
    rw [if_pos e3]
    exact h
end
end PV

namespace PV
open PySem L2
section
variable {ρ ρ1 : Ss} {P P' : Tm → Ss → Prop} {X X' : PX} {g ga gb gc gi : Ev} {gs gk : Ss → OuL} {N N' : Ss → Prop} {R R' : Tm → Ss → Prop} {B C B' C' : Ss → Prop} {t u w : Tm} {i j c : Nat}
theorem OuW.ok {o : Ou} {P : Tm → Ss → Prop} (h : OuW o P X0) : ∃ t ρ, o = .ok t ρ ∧ P t ρ := by
  cases o with
  | ok t ρ => exact ⟨t, ρ, rfl, h⟩
  | ex e ρ => exact h.elim
  | no => exact h.elim
theorem OlW.ok {o : OuL} {P : List Tm → Ss → Prop} (h : OlW o P X0) : ∃ t ρ, o = .ok t ρ ∧ P t ρ := by
  cases o with
  | ok t ρ => exact ⟨t, ρ, rfl, h⟩
  | ex e ρ => exact h.elim
  | no => exact h.elim
/-- an expression while a name's own is lent -/
theorem EW.bor (h0 : ρ[i]? = some (some t)) (ok : okB ρ = true) (hl : lentT t = u) (hs : ρ.set i (some u) = ρ1) (h : EW g ρ1 (fun v ρ' => ∃ w, unB v = some w ∧ ρ' = ρ1 ∧ P w ρ) X0) : EW (eBor i g) ρ P X := by
  with_unfolding_all
    unfold EW at h ⊢
    obtain ⟨v, ρ', e, w, e2, e3, h⟩ := h.ok
    unfold eBor
    simp only [h0]
    rw [if_pos ok, hl, hs, e]
    simp only [e2]
    rw [e3, if_pos (eqSs_refl _)]
    exact h
end
end PV

namespace PV
open PySem PySem.Spec L2
section
variable {ρ : Ss} {P P' : Tm → Ss → Prop} {X X' : PX} {g ga gb gc : Ev} {gs : Ss → OuL} {N N' : Ss → Prop} {R R' : Tm → Ss → Prop} {B C B' C' : Ss → Prop} {t u : Tm}
end
end PV

namespace PV
open PySem L2
section
variable {ρ : Ss} {P P' : Tm → Ss → Prop} {X X' : PX} {g ga gb gc g0 test elt gn : Ev} {v : Nat}
end
end PV

namespace PV
open PySem PySem.Spec L2
section
variable {ρ : Ss} {P : Tm → Ss → Prop} {X : PX} {g ga gb : Ev} {gs : Ss → OuL} {N : Ss → Prop} {R : Tm → Ss → Prop} {B C : Ss → Prop}
theorem SW.raise {c : Nat} (h : EW ga ρ (fun t ρ1 => ∃ d, t = .v .F d ∧ X ⟨c, [d]⟩ ρ1) X) : SW (sRaise c ga) ρ N R B C X := by
  with_unfolding_all
    unfold SW sRaise
    refine OuW.toF (OuW.imp h (fun t ρ1 h => ?_) fun _ _ h => h)
    obtain ⟨d, rfl, h⟩ := h
    exact h
/-- what is asked of an error of the body -/
def TryW (kn : List Nat) (hs : List Hd) (N : Ss → Prop) (R : Tm → Ss → Prop) (B C : Ss → Prop) (X : PX) : PX := fun e ρ1 => e.c ∈ kn ∧ match hs.find? (fun h => e.c == h.c) with
  | some h => h.j < ρ1.length ∧ FlW (h.k e.ds (ρ1.set h.j none)) N R B C X
  | none => X e ρ1
end
end PV

namespace PV
open PySem PySem.Spec L2
section
variable {ρ : Ss} {P : Tm → Ss → Prop} {X : PX} {g ga gb : Ev} {gs : Ss → OuL} {N : Ss → Prop} {R : Tm → Ss → Prop} {B C : Ss → Prop} {t : Tm}
theorem EW.isB (h : EW ga ρ (fun t ρ1 => EW gb ρ1 (fun u ρ2 => ∃ k l a b, Is ρ2 t k (.bl a) ∧ Is ρ2 u l (.bl b) ∧ P (.v .F (.bl (decide (a = b)))) ρ2) X) X) : EW (eIsB ga gb) ρ P X := by with_unfolding_all exact (EW.op2 (E2W.imp h fun t u ρ h => by
  obtain ⟨k, l, a, b, h1, h2, h3⟩ := h
  exact rd2_is h1 h2 rfl h3))
def Rp3W (t : Tm) (ρ : Ss) (P : Tm → Ss → Prop) : Prop := O1W (rd1 reprD3) t ρ P
theorem Rp3W.bl {k : Kd} {b : Bool} (h1 : Is ρ t k (.bl b)) (p : P (.v .F (.str (boS b))) ρ) : Rp3W t ρ P := rd1_is h1 rfl p
theorem Rp3W.int {k : Kd} {i : Int} (h1 : Is ρ t k (.int i)) (h2 : i.natAbs.log2 < 1920) (p : P (.v .F (.str (toString i))) ρ) : Rp3W t ρ P := rd1_is h1 (by simp only [reprD3, if_pos h2]) p
theorem Rp3W.go {k : Kd} {d : D} {x : Str} (h1 : Is ρ t k d) (h2 : reprD3 d = some (.str x)) (p : P (.v .F (.str x)) ρ) : Rp3W t ρ P := rd1_is h1 h2 p
end
/-! data that can be shown -/
/-- data with a text: all ints short, not deep, not too many -/
structure ShD (n m : Nat) (d : D) (p : PyData) : Prop where
  py : toPyE d = some p
  sh : PyData.showable p = true
  lf : PyData.leavesShort 13 p = true
  dp : PyData.depth p ≤ n
  wt : PyData.weight p ≤ m
structure ShDs (n m : Nat) (ds : List D) (ps : List PyData) : Prop where
  py : toPyEs ds = some ps
  sh : PyData.showableAll ps = true
  lf : PyData.leavesShortAll 13 ps = true
  dp : PyData.depthAll ps ≤ n
  wt : PyData.weightAll ps ≤ m
theorem ShDs.nil : ShDs 0 0 [] [] := ⟨by simp [toPyEs], by simp [PyData.showableAll], by simp [PyData.leavesShortAll], by simp [PyData.depthAll], by simp [PyData.weightAll]⟩
theorem ShDs.cons {n n2 m m2 : Nat} {d : D} {ds : List D} {p : PyData} {ps : List PyData} (h : ShD n m d p) (hs : ShDs n2 m2 ds ps) : ShDs (max n n2) (m + 1 + m2) (d :: ds) (p :: ps) :=
  ⟨by simp only [toPyEs, h.py, hs.py], by simp only [PyData.showableAll, h.sh, hs.sh, Bool.and_self], by simp only [PyData.leavesShortAll, h.lf, hs.lf, Bool.and_self],
   by simp only [PyData.depthAll]; have := h.dp; have := hs.dp; omega, by simp only [PyData.weightAll]; have := h.wt; have := hs.wt; omega⟩
theorem ShD.mono {n n2 m m2 : Nat} {d : D} {p : PyData} (h : ShD n m d p) (h1 : n ≤ n2) (h2 : m ≤ m2) : ShD n2 m2 d p := ⟨h.py, h.sh, h.lf, Nat.le_trans h.dp h1, Nat.le_trans h.wt h2⟩
theorem ShDs.mono {n n2 m m2 : Nat} {d : List D} {p : List PyData} (h : ShDs n m d p) (h1 : n ≤ n2) (h2 : m ≤ m2) : ShDs n2 m2 d p := ⟨h.py, h.sh, h.lf, Nat.le_trans h.dp h1, Nat.le_trans h.wt h2⟩
theorem ShDs.lst {n m : Nat} {ds : List D} {ps : List PyData} (h : ShDs n m ds ps) : ShD (n + 1) m (.lst ds) (.list ps) :=
  ⟨by simp only [toPyE, h.py, Option.map_some], by simp only [PyData.showable]; exact h.sh, by simp only [PyData.leavesShort]; exact h.lf, by simp only [PyData.depth]; have := h.dp; omega, by simp only [PyData.weight]; have := h.wt; omega⟩
theorem ShDs.tup {n m : Nat} {ds : List D} {ps : List PyData} (h : ShDs n m ds ps) : ShD (n + 1) m (.tup ds) (.tuple ps) :=
  ⟨by simp only [toPyE, h.py, Option.map_some], by simp only [PyData.showable]; exact h.sh, by simp only [PyData.leavesShort]; exact h.lf, by simp only [PyData.depth]; have := h.dp; omega, by simp only [PyData.weight]; have := h.wt; omega⟩
theorem ShDs.app {n n2 m m2 : Nat} : ∀ {ds es : List D} {ps qs : List PyData}, ShDs n m ds ps → ShDs n2 m2 es qs → ShDs (max n n2) (m + m2) (ds ++ es) (ps ++ qs) := by
  intro ds
  induction ds generalizing m with
  | nil =>
    intro es ps qs h hs
    have e := h.py
    simp only [toPyEs, Option.some.injEq] at e
    subst e
    exact hs.mono (Nat.le_max_right _ _) (Nat.le_add_left _ _)
  | cons d ds ih =>
    intro es ps qs h hs
    have e := h.py
    simp only [toPyEs] at e
    split at e
    · rename_i p ps' e1 e2
      cases e
      have h1 := h.sh; have h2 := h.lf; have h3 := h.dp; have h4 := h.wt
      simp only [PyData.showableAll, Bool.and_eq_true] at h1
      simp only [PyData.leavesShortAll, Bool.and_eq_true] at h2
      simp only [PyData.depthAll] at h3
      simp only [PyData.weightAll] at h4
      have hd : ShD n (PyData.weight p) d p := ⟨e1, h1.1, h2.1, by omega, Nat.le_refl _⟩
      have hr : ShDs n (PyData.weightAll ps') ds ps' := ⟨e2, h1.2, h2.2, by omega, Nat.le_refl _⟩
      have := ShDs.cons hd (ih hr hs)
      exact this.mono (by omega) (by omega)
    · cases e
end PV

namespace PV
open PySem PySem.Spec L2
section
variable {ρ : Ss} {P : Tm → Ss → Prop} {X : PX} {g ga gb : Ev} {t : Tm}
end
end PV

namespace PV
open PySem PySem.Spec L2
section
variable {ρ : Ss} {P P' : Tm → Ss → Prop} {X X' : PX} {g ga gb gc gn elt : Ev} {gs : Ss → OuL} {N N' : Ss → Prop} {R R' : Tm → Ss → Prop} {B C B' C' : Ss → Prop} {t u : Tm} {it : Iv}
/-- for x in A for u in a tuple -/
def CsW (tgt : Tg) (gn : Ev) (tgt1 : Tg) (elt : Ev) (vs vs1 : List Nat) (ts : List Tm) (ρ : Ss) (K : List D → Ss → Prop) : Prop := ∃ ds ρ', compS tgt gn tgt1 elt vs vs1 ts ρ = some (ds, ρ') ∧ K ds ρ'
theorem CsW.nil {tgt tgt1 : Tg} {vs vs1 : List Nat} {K : List D → Ss → Prop} {ρ1 : Ss} (hw : wipeS ρ vs = ρ1) (h : K [] ρ1) : CsW tgt gn tgt1 elt vs vs1 [] ρ K := ⟨[], ρ1, by simp only [PV.compS, hw], h⟩
theorem CsW.cons {tgt tgt1 : Tg} {vs vs1 : List Nat} {K : List D → Ss → Prop} {ρ1 : Ss} {ts : List Tm} (hw : wipeS ρ vs = ρ1)
    (h : TW tgt t ρ1 fun ρ2 => EW gn ρ2 (fun n ρ3 => ∃ us, itF n = some us ∧ CoW tgt1 eTrue elt vs1 us ρ3 fun ds1 ρ4 => CsW tgt gn tgt1 elt vs vs1 ts ρ4 fun ds ρ5 => K (ds1 ++ ds) ρ5) X0) : CsW tgt gn tgt1 elt vs vs1 (t :: ts) ρ K := by
  obtain ⟨ρ2, e2, h⟩ := h
  obtain ⟨n, ρ3, e3, us, e4, ds1, ρ4, e5, ds, ρ5, e6, h⟩ := EW.get h
  subst hw
  refine ⟨_, _, ?_, h⟩
  simp only [PV.compS, e2, e3, e4, e5, e6]
end
end PV

namespace PV
open PySem PySem.Spec L2
section
variable {ρ : Ss} {P P' : Tm → Ss → Prop} {X X' : PX} {g ga gb : Ev} {t u : Tm} {c : Nat} {fn : Fn} {ms : List Md} {neg : Bool}
theorem EW.own (h : EW ga ρ (fun t ρ1 => EW gb ρ1 (fun u ρ2 => isOb c (derT ρ2 t) = true ∧ ∃ u', derT ρ2 u = some u' ∧ tyC c (toD u') = true ∧ CaW fn ms [t, u] ρ2 (fun r ρ3 => ∃ b, r = .v .F (.bl b) ∧ P (.v .F (.bl (if neg = true then !b else b))) ρ3) X0) X) X) : EW (eOwn c fn ms neg ga gb) ρ P X := by
  with_unfolding_all
    unfold EW eOwn
    refine OuW.bind (OuW.imp h (fun t ρ1 h => OuW.bind (OuW.imp h (fun u ρ2 h => ?_) fun _ _ h => h)) fun _ _ h => h)
    obtain ⟨h1, u', h2, h3, h4⟩ := h
    rw [if_pos h1, h2]
    dsimp only
    rw [if_pos h3]
    unfold CaW at h4
    cases ec : callF fn ms [t, u] ρ2 with
    | ok r ρ3 =>
      rw [ec] at h4
      obtain ⟨b, rfl, h5⟩ := h4
      exact h5
    | ex e ρ3 => rw [ec] at h4; exact h4.elim
    | no => rw [ec] at h4; exact h4.elim
end
end PV

namespace PV
open PySem PySem.Spec L2
section
variable {ρ : Ss} {P P' : Tm → Ss → Prop} {X X' : PX} {g ga gb : Ev} {t u : Tm} {N : Ss → Prop} {R : Tm → Ss → Prop} {B C : Ss → Prop}
def TryKW (kn : List Nat) (sub : Nat → Bool) (j y : Nat) (N : Ss → Prop) (X : PX) : PX := fun e ρ1 => e.c ∈ kn ∧ (if sub e.c = true then j < ρ1.length ∧ y < ρ1.length ∧ ∃ ρ2, (ρ1.set j none).set y (some (.v .F (.err e.c e.ds))) = ρ2 ∧ N ρ2 else X e ρ1)
theorem SW.tryK {kn : List Nat} {sub : Nat → Bool} {j y : Nat} {g : Sm} (h : SW g ρ N R B C (TryKW kn sub j y N X)) : SW (sTryK kn sub j y g) ρ N R B C X := by
  with_unfolding_all
    unfold SW at h ⊢
    unfold sTryK
    cases eg : g ρ with
    | nx ρ' => rw [eg] at h; exact h
    | bk ρ' => rw [eg] at h; exact h
    | ct ρ' => rw [eg] at h; exact h
    | rt t ρ' => rw [eg] at h; exact h
    | no => rw [eg] at h; exact h
    | ex e ρ1 =>
      rw [eg] at h
      obtain ⟨h1, h2⟩ : TryKW kn sub j y N X e ρ1 := h
      dsimp only
      rw [if_pos h1]
      by_cases hs : sub e.c = true
      · rw [if_pos hs] at h2 ⊢
        obtain ⟨h3, h4, ρ2, rfl, h5⟩ := h2
        rw [if_pos ⟨h3, h4⟩]
        exact h5
      · rw [if_neg hs] at h2 ⊢
        exact h2
theorem EW.err {c : Nat} (h : EW g ρ (fun t ρ1 => ∃ d, derT ρ1 t = some (.v .F (.err c [d])) ∧ P (.v .F d) ρ1) X) : EW (eErr c g) ρ P X := by
  with_unfolding_all exact (EW.op1 (EW.imp h fun t ρ1 h => by
    obtain ⟨d, h1, h2⟩ := h
    exact ⟨_, _, h1, by simp [errF], h2⟩))
theorem EW.isE {kn : List Nat} {sub : Nat → Bool} (h : EW g ρ (fun t ρ1 => ∃ k c xs, Is ρ1 t k (.err c xs) ∧ c ∈ kn ∧ P (.v .F (.bl (sub c))) ρ1) X) : EW (eIsE kn sub g) ρ P X := by
  with_unfolding_all exact (EW.op1 (EW.imp h fun t ρ1 h => by
    obtain ⟨k, c, xs, h1, h2, h3⟩ := h
    exact rd1_is h1 (by simp only [PV.isE]; rw [if_pos h2]) h3))
end
end PV

namespace PV
open PySem PySem.Spec L2
section
variable {ρ ρ0 ρ1 ρ2 ρa : Ss} {P P' : Tm → Ss → Prop} {X X' : PX} {g ga gb : Ev} {gs : Ss → OuL} {t u : Tm} {N : Ss → Prop} {R : Tm → Ss → Prop} {B C : Ss → Prop} {test elt : Ev} {tg : Tg} {vs : List Nat} {it : Iv} {i j k : Nat}
def CtW (tg : Tg) (test elt : Ev) (vs : List Nat) (ts : List Tm) (ρ : Ss) (K : List Tm → Ss → Prop) : Prop := ∃ ds ρ', compT tg test elt vs ts ρ = some (ds, ρ') ∧ K ds ρ'
theorem CtW.inv {α : Type} {tg : Tg} {vs : List Nat} {inj : α → Tm} (I : List α → List Tm → Ss → Prop) : ∀ (xs pre : List α) (es : List Tm) (ρ : Ss), I pre es (wipeS ρ vs) →
    (∀ a p x q ds ρ, a = pre ++ xs → a = p ++ x :: q → I p ds ρ → TW tg (inj x) ρ fun ρ1 => EW test ρ1 (fun b ρ2 => BoW b (EW elt ρ2 (fun y ρ3 => isLoc y = false ∧ ∃ ρ4, wipeS ρ3 vs = ρ4 ∧ I (p ++ [x]) (ds ++ [y]) ρ4) X0) (∃ ρ4, wipeS ρ2 vs = ρ4 ∧ I (p ++ [x]) ds ρ4)) X0) →
    ∃ ds ρ', compT tg test elt vs (xs.map inj) ρ = some (ds, ρ') ∧ I (pre ++ xs) (es ++ ds) ρ'
  | [], pre, es, ρ, h0, hs => by with_unfolding_all exact (⟨[], wipeS ρ vs, by simp only [List.map_nil, PV.compT], by rw [List.append_nil, List.append_nil]; exact h0⟩)
  | x :: xs, pre, es, ρ, h0, hs => by
    with_unfolding_all
      obtain ⟨ρ1, e1, h1⟩ := hs _ pre x xs es _ rfl rfl h0
      obtain ⟨b, ρ2, e2, h2⟩ := EW.get h1
      obtain ⟨bb, eb, h2⟩ := h2.of
      have hs' : ∀ a p y q ds ρ, a = (pre ++ [x]) ++ xs → a = p ++ y :: q → I p ds ρ → TW tg (inj y) ρ fun ρ1 => EW test ρ1 (fun b ρ2 => BoW b (EW elt ρ2 (fun y' ρ3 => isLoc y' = false ∧ ∃ ρ4, wipeS ρ3 vs = ρ4 ∧ I (p ++ [y]) (ds ++ [y']) ρ4) X0) (∃ ρ4, wipeS ρ2 vs = ρ4 ∧ I (p ++ [y]) ds ρ4)) X0 := fun a p y q ds ρ ha => hs a p y q ds ρ (by rw [ha, List.append_assoc]; rfl)
      cases bb with
      | true =>
        obtain ⟨y, ρ3, e3, e4, _, rfl, h3⟩ := EW.get (show EW elt ρ2 _ X0 from h2)
        obtain ⟨ds, ρ', e5, h4⟩ := CtW.inv I xs (pre ++ [x]) (es ++ [y]) ρ3 h3 hs'
        refine ⟨y :: ds, ρ', by simp only [List.map_cons, PV.compT, e1, e2, eb, e3, e4, e5, if_true], ?_⟩
        rw [List.append_assoc, List.append_assoc] at h4
        exact h4
      | false =>
        obtain ⟨_, rfl, h3⟩ := h2
        obtain ⟨ds, ρ', e5, h4⟩ := CtW.inv I xs (pre ++ [x]) es ρ2 h3 hs'
        refine ⟨ds, ρ', by simp only [List.map_cons, PV.compT, e1, e2, eb, e5], ?_⟩
        rw [List.append_assoc] at h4
        exact h4
theorem CtW.go {α : Type} {tg : Tg} {vs : List Nat} {inj : α → Tm} {K : List Tm → Ss → Prop} (I : List α → List Tm → Ss → Prop) (xs : List α) (h0 : ∃ ρ1, wipeS ρ vs = ρ1 ∧ I [] [] ρ1)
    (hs : ∀ p x q ds ρ, xs = p ++ x :: q → I p ds ρ → TW tg (inj x) ρ fun ρ1 => EW test ρ1 (fun b ρ2 => BoW b (EW elt ρ2 (fun y ρ3 => isLoc y = false ∧ ∃ ρ4, wipeS ρ3 vs = ρ4 ∧ I (p ++ [x]) (ds ++ [y]) ρ4) X0) (∃ ρ4, wipeS ρ2 vs = ρ4 ∧ I (p ++ [x]) ds ρ4)) X0)
    (he : ∀ ds ρ, I xs ds ρ → K ds ρ) : CtW tg test elt vs (xs.map inj) ρ K := by
  with_unfolding_all
    obtain ⟨_, rfl, h0⟩ := h0
    obtain ⟨ds, ρ', e, h⟩ := CtW.inv I xs [] [] ρ h0 fun a p x q ds ρ ha hp => hs p x q ds ρ (by rw [← hp, ha]; rfl)
    exact ⟨ds, ρ', e, he ds ρ' h⟩
theorem Rp2W.tp {ts : List Tm} {xs : List D} {x : Str} (hx : ts.map toD = xs) (h2 : reprD (.tup xs) = some (.str x)) (p : P (.v .F (.str x)) ρ) : Rp2W (.tp ts) ρ P := by
  have e : toD (.tp ts) = .tup xs := by rw [toD, toDs_map, hx]
  refine ⟨.tp ts, .v .F (.str x), rfl, ?_, p⟩
  simp only [rd1, e, reprD2, h2, Option.map_some]
end
/-- isinstance(x, C), x of a built-in type: no -/
theorem kit_no {K : PySem.W.Frag} {T : String} {C : Addr} (h1 : PySem.W.isClsIn K C = true) (h2 : PySem.W.typeIn K (.ref C) = some (.type "type")) (h3 : PySem.W.subIn K (.type T) (.ref C) = some false) : PySem.W.kitOne K (.type T) (.ref C) = some false := by
  unfold PySem.W.kitOne
  rw [if_neg (show ¬ ((Value.type T == Value.ref C) = true) from fun z => Value.noConfusion (beq_iff_eq.mp z))]
  unfold PySem.W.kitCls
  dsimp only
  rw [if_pos]
  · exact h3
  · rw [Bool.and_eq_true]
    exact ⟨h1, beq_iff_eq.mpr h2⟩
end PV

namespace PV
open PySem PySem.Spec L2
section
variable {ρ ρ1 : Ss} {P P' : Tm → Ss → Prop} {X X' : PX} {g ga gb : Ev} {gs gk : Ss → OuL} {t u : Tm} {PL : List Tm → Ss → Prop}
theorem EW.split (h : EW ga ρ (fun t ρ1 => ∃ k z, Is ρ1 t k (.str z) ∧ EW gb ρ1 (fun u ρ2 => ∃ l y, Is ρ2 u l (.str y) ∧ (y.length == 0) = false ∧ z.length + 2 ≤ sizeLine ∧ P (.v .O (.lst ((Txt.split z y).map .str))) ρ2) X) X) : EW (eSplit ga gb) ρ P X := by
  with_unfolding_all
    unfold EW eSplit
    refine OuW.bind (OuW.imp h (fun t ρ1 h => ?_) fun _ _ h => h)
    obtain ⟨k, z, e, h⟩ := h
    rw [show (derT ρ1 t).bind asS = some z by rw [show derT ρ1 t = _ from e]; rfl]
    refine OuW.bind (OuW.imp h (fun u ρ2 h => ?_) fun _ _ h => h)
    obtain ⟨l, y, e2, h1, h2, h3⟩ := h
    rw [show (derT ρ2 u).bind asS = some y by rw [show derT ρ2 u = _ from e2]; rfl]
    dsimp only
    rw [if_pos ⟨h1, h2⟩]
    exact h3
theorem EW.intT (h : EW g ρ (fun t ρ1 => ∃ k a n, Is ρ1 t k (.str a) ∧ PySem.intText? a = some n ∧ a.length ≤ 640 ∧ P (.v .F (.int n)) ρ1) X) : EW (eIntT g) ρ P X := by
  with_unfolding_all exact (EW.op1 (EW.imp h fun t ρ1 h => by
    obtain ⟨k, a, n, h1, h2, h3, h4⟩ := h
    exact rd1_is h1 (by simp only [PV.intT, h2]; rw [if_pos h3]) h4))
theorem EW.inT (h : EW ga ρ (fun t ρ1 => EW gb ρ1 (fun u ρ2 => ∃ k l c z, Is ρ2 t k (.str ⟨#[c]⟩) ∧ Is ρ2 u l (.str z) ∧ P (.v .F (.bl (decide (c ∈ z.cps.toList)))) ρ2) X) X) : EW (eInT ga gb) ρ P X := by
  with_unfolding_all exact (EW.op2 (E2W.imp h fun t u ρ h => by
    obtain ⟨k, l, c, z, h1, h2, h3⟩ := h
    exact rd2_is h1 h2 (by simp only [PV.inT]) h3))
theorem EW.ixS (h : EW ga ρ (fun t ρ1 => EW gb ρ1 (fun u ρ2 => ∃ k l z i c, Is ρ2 t k (.str z) ∧ Is ρ2 u l (.int i) ∧ z.length ≤ sizeLine ∧ atI z.cps.toList i = some c ∧ P (.v .F (.str ⟨#[c]⟩)) ρ2) X) X) : EW (eIxS ga gb) ρ P X := by
  with_unfolding_all exact (EW.op2 (E2W.imp h fun t u ρ h => by
    obtain ⟨k, l, z, i, c, h1, h2, h3, h4, h5⟩ := h
    exact rd2_is h1 h2 (by simp only [PV.ixS]; rw [if_pos h3, h4]; rfl) h5))
theorem IW.txt (h : EW g ρ (fun t ρ1 => ∃ k z, Is ρ1 t k (.str z) ∧ PL (signsT z) ρ1) X) : IW (itTxt g) ρ PL X := by
  with_unfolding_all
    unfold IW itTxt
    refine OuW.bindL (OuW.imp h (fun t ρ1 h => ?_) fun _ _ h => h)
    obtain ⟨k, z, e, h⟩ := h
    rw [show (derT ρ1 t).bind asS = some z by rw [show derT ρ1 t = _ from e]; rfl]
    exact h
theorem EW.cm {c : Nat} {f : Fn} {ms : List Md} (h : AW gs ρ (fun ts ρ1 => CaW f (.f :: ms) (.v .F (.cls c) :: ts) ρ1 P X) X) : EW (eCM c f ms gs) ρ P X := by
  with_unfolding_all
    unfold EW eCM
    exact OlW.bind h
theorem EW.makeL {i c : Nat} {f : Fn} {ms : List Md} {dfl : List D} (h0 : ρ[i]? = some (some (.v .F (.cls c)))) (h : EW (eMake c f ms gs gk dfl) ρ P X) : EW (eMakeL i c f ms gs gk dfl) ρ P X := by
  with_unfolding_all
    unfold EW at h ⊢
    unfold eMakeL
    rw [h0]
    dsimp only
    rw [if_pos rfl]
    exact h
end
end PV

namespace PV
open PySem PySem.Spec L2
section
variable {ρ ρ1 : Ss} {P P' : Tm → Ss → Prop} {X X' : PX} {g ga gb : Ev} {gs gk : Ss → OuL} {t u : Tm} {PL : List Tm → Ss → Prop}
theorem EW.notInT (h : EW ga ρ (fun t ρ1 => EW gb ρ1 (fun u ρ2 => ∃ k l c z, Is ρ2 t k (.str ⟨#[c]⟩) ∧ Is ρ2 u l (.str z) ∧ P (.v .F (.bl (!decide (c ∈ z.cps.toList)))) ρ2) X) X) : EW (eNotInT ga gb) ρ P X := by
  with_unfolding_all exact (EW.op2 (E2W.imp h fun t u ρ h => by
    obtain ⟨k, l, c, z, h1, h2, h3⟩ := h
    exact rd2_is h1 h2 (by simp only [PV.notInT]) h3))
theorem EW.mulS (h : EW ga ρ (fun t ρ1 => EW gb ρ1 (fun u ρ2 => ∃ k l z i, Is ρ2 t k (.str z) ∧ Is ρ2 u l (.int i) ∧ (2 ≤ i ∧ i ≤ 100000 ∧ 0 < z.length ∧ z.length ≤ 100) ∧ P (.v .F (.str (repS z i.toNat))) ρ2) X) X) : EW (eMulS ga gb) ρ P X := by
  with_unfolding_all exact (EW.op2 (E2W.imp h fun t u ρ h => by
    obtain ⟨k, l, z, i, h1, h2, h3, h4⟩ := h
    exact rd2_is h1 h2 (by simp only [PV.mulS]; rw [if_pos h3]) h4))
theorem SlW.str {k : Kd} {z : Str} {l h : Option Int} (h1 : Is ρ t k (.str z)) (hz : z.length ≤ sizeLine) (p : P (.v .F (.str (cutS z l h))) ρ) : SlW t l h ρ P := ⟨_, _, h1, by simp only [opSl, slV]; rw [if_pos hz], p⟩
theorem IdxW.str {k l : Kd} {z : Str} {i : Int} {c : Nat} (h1 : Is ρ t k (.str z)) (h2 : Is ρ u l (.int i)) (hz : z.length ≤ sizeLine) (hc : atI z.cps.toList i = some c) (p : P (.v .F (.str ⟨#[c]⟩)) ρ) : IdxW t u ρ P := ⟨_, _, _, h1, h2, by simp only [opIdx, idxV]; rw [if_pos hz, hc]; rfl, p⟩
theorem len_str {k : Kd} {z : Str} (h1 : Is ρ t k (.str z)) (hz : z.length ≤ sizeLine) (p : P (.v .F (.int (z.length : Int))) ρ) : O1W (rd1 lenD) t ρ P := rd1_is h1 (by simp only [lenD]; rw [if_pos hz]) p
end
end PV

namespace PySem
namespace LowX_InvalidText
open PySem.W PySem.Calls PyProof.Rows PySem.HandSPX
/-! ### the text of __init__ -/
def iA (p1 p2 : Pos) : Arguments := { posonlyargs := [], args := [{ arg := "self", annotation := none, pos := p1 }, { arg := "row", annotation := none, pos := p2 }], vararg := none, kwonlyargs := [], kw_defaults := [], kwarg := none, defaults := [] }
def iB (q1 q2 q3 q4 : Pos) : List Stmt := [.Assign [.Attribute (.Name "self" q1) "row" q2] (.Name "row" q3) q4]
def iS : Scope := { kind := .function, names := [(PySem.Str.ofString "self", .local), (PySem.Str.ofString "row", .local)], isGenerator := false, isCoroutine := false, more := [] }
/-- what the written part says of Low, at C, and of its __init__, at fI -/
structure LowTxt (K : Frag) (mg : Str → Option Value) (C fI : Addr) : Prop where
  gC : mg "InvalidText" = some (.ref C)
  cls : ∃ nm q N bs bm sn sub ab col dd k0 k1 k2 k3 k5, K.lookup C = some (excClassObj nm q C N bs bm true sn sub ab col dd k0 k1 k2 k3 k5 "ValueError.__new__") ∧ refsVE bm = true
  sa : findIn K (.ref C) "__setattr__" = some (some (.builtin "object.__setattr__"))
  ga : findIn K (.ref C) "__getattribute__" = some (some (.builtin "BaseException.__getattribute__"))
  gg : findIn K (.ref C) "__getattr__" = some none
  noN : findIn K (.ref C) "row" = some none
  iC : findIn K (.ref C) "__init__" = some (some (.ref fI))
  tC : typeIn K (.ref fI) = some (.type "function")
  kC : keepIn K (.ref C) = true
  exC : subIn K (.ref C) (.type "BaseException") = some true
  tyC : typeIn K (.ref C) = some (.type "type")
  hdC : hasDictIn K C = true
  te : exmOne K (.ref C) (.ref C) = some true
  fn : ∃ (oc : Value) (od : Option Addr) (doc pm : Value) (an : Option Addr) (cdv ct : Value) (osl : Array (Option Value)) (p1 p2 q1 q2 q3 q4 : Pos),
    K.lookup fI = some ⟨oc, od, .func (fnOf "__init__" "InvalidText.__init__" (iA p1 p2) (iB q1 q2 q3 q4) iS .none .none doc pm an cdv ct), osl⟩ ∧ codeIn K cdv "InvalidText.__init__" = true
theorem one_size (v : Value) : [v].length ≤ sizeLine := by
  rw [sizeLine_eq]
  exact (by decide : 1 ≤ 16777216)
theorem ldC {M : Model} {s : Shared} {name : Str} {scope : Scope} {L a : Addr} {cd : Value} {m : Str → Option Value} {x : Str} {pos : Pos} {v : Value} {Q : Value → Shared → Prop} {A : Around} {E : Value → Shared → Prop} (hn : s.heap.Ns L m) (hv : m x = some v) (h : Q v s)
    (hk : scope.kind = .function := by rfl) (hl : (envOfC name scope L a cd).kindOf x = some .local := by rfl) (hd : (x == ("__debug__" : Str)) = false := by decide) :
    wpAny M A (eval (.Name x pos) (envOfC name scope L a cd)) Q E s := wpAny_Name (wpAny_loadName_local hk hl hn hv h) hd
/-- what __init__ leaves of a fresh exception at x -/
structure InitEnd (h h' : Heap) (x C dx t1 : Addr) (v : Value) : Prop where
  keep : ∀ b o, b ≠ x → h.get? b = some o → h'.get? b = some o
  obj : h'.get? x = some { cls := .ref C, dict := some dx, data := .fields #[.ref t1, .none, .none, .none, .bool false, .none] }
  dbig : h.objs.size ≤ dx
  dne : dx ≠ x
  ns : h'.Ns1 dx (fun y => if y = "row" then some v else none)
/-- a made Low -/
structure OwnMade (h h' : Heap) (e C d : Addr) (v : Value) : Prop where
  keep : ∀ b o, h.get? b = some o → h'.get? b = some o
  new : h.objs.size ≤ e
  obj : ∃ oe vs, h'.get? e = some oe ∧ oe.cls = .ref C ∧ oe.dict = some d ∧ oe.data = .fields vs ∧ vs[1]? = some .none ∧ vs[2]? = some .none
  dbig : h.objs.size ≤ d
  dne : d ≠ e
  ns : h'.Ns1 d (fun y => if y = "row" then some v else none)
section
variable {prog : Program} {w : World} {A : Around} {E : Value → Shared → Prop} {R : Result → Shared → Prop} {s : Shared} {K : Frag} {mg : Str → Option Value} {C fI : Addr}
theorem low_init (T : LowTxt K mg C fI) {x t0 : Addr} {v : Value} (X : K.In s.heap) (hlim : s.heap.NoLimit) (hx : s.heap.get? x = some (excO C t0)) (hnx : K.lookup x = none) (hroom : A.depth < recursionLimit)
    (hq : ∀ h' tk dx, InitEnd s.heap h' x C dx t0 v → R (.ok (.ret .none)) { s with heap := h', toks := tk }) :
    codeAny (model prog w) A (.call (.ref fI) ⟨[.ref x, v], []⟩) R s := by
  obtain ⟨oc, od, doc, pm, an, cdv, ct, osl, p1, p2, q1, q2, q3, q4, ho, hcd⟩ := T.fn
  obtain ⟨nm, q, N, bs, bm, sn, sub, ab, col, dd, k0, k1, k2, k3, k5, hC, hbm⟩ := T.cls
  have hcl : clsIn K C = some { name := nm, bases := bs, mro := .ref C :: bm, ns := N, qualname := q, hasDict := true, slotNames := sn, subclasses := sub, abstract := ab, collection := col, hasDel := false } := by unfold clsIn; rw [hC] <;> rfl
  refine Att.call_fn (binds := [("self", .ref x), ("row", v)]) X hlim ho hcd hroom (BindsTo.of_eq (by first | rfl | with_unfolding_all rfl)) (by first | rfl | decide | with_unfolding_all rfl) (fun s₁ IC => ?_) rfl rfl rfl
  obtain ⟨h₁, tk₁, rfl⟩ := IC.toInCall.same
  have k : ∀ b o, s.heap.get? b = some o → h₁.get? b = some o := IC.toInCall.keep
  have hn := IC.toInCall.ns
  have hxL : s.heap.objs.size ≠ x := Nat.ne_of_gt (Heap.lt_size hx)
  have X₁ : K.In h₁ := X.keeps k
  have hx₁ := k _ _ hx
  -- self.by = by
  show wpAny _ _ (execs _ _) _ _ _
  refine wpAny_execs_cons (plainObj_wpAny_Assign_Attribute ?_)
  refine ldC (v := v) hn (by first | rfl | with_unfolding_all rfl | kernel_rfl) (ldC (v := .ref x) hn (by first | rfl | with_unfolding_all rfl | kernel_rfl) ?_)
  refine set_plain X₁ (ox := excO C t0) (od := none) ⟨hx₁, rfl, rfl, trivial⟩ T.sa ?_
  refine exc_osa X₁ hx₁ hcl (show refsVE (.ref C :: bm) = true from hbm) rfl T.noN (fun h₃ tk₃ dx k₃ dn dne hx₃ hn₃ => ?_)
  show wpAny _ _ (execs _ _) _ _ _
  have z : s.heap.objs.size < h₁.objs.size := hn.lt
  exact wpAny_execs_nil (hq h₃ tk₃ dx ⟨fun b o hb e => k₃ b o hb (k b o e), hx₃, Nat.le_of_lt (Nat.lt_of_lt_of_le z dn), dne, hn₃⟩)
theorem low_made (T : LowTxt K mg C fI) {v : Value} (X : K.In s.heap) (hlim : s.heap.NoLimit) (hroom : A.depth + 1 < recursionLimit)
    (hq : ∀ h' tk e d, OwnMade s.heap h' e C d v → R (.ok (.ret (.ref e))) { s with heap := h', toks := tk }) :
    codeAny (model prog w) A (.call (.ref C) ⟨[v], []⟩) R s := by
  obtain ⟨nm, q, N, bs, bm, sn, sub, ab, col, dd, k0, k1, k2, k3, k5, hC, hbm⟩ := T.cls
  obtain ⟨hp, g, dr, tk, os⟩ := s
  have k : ∀ b o, hp.get? b = some o → ((hp.push (kdv_tup [v])).push (excO C hp.objs.size)).get? b = some o := fun b o e => Heap.get?_push_of_some _ (Heap.get?_push_of_some _ e)
  have hget : ((hp.push (kdv_tup [v])).push (excO C hp.objs.size)).get? (hp.objs.size + 1) = some (excO C hp.objs.size) := by heap_get
  have hnx : K.lookup (hp.objs.size + 1) = none := by
    cases e : K.lookup (hp.objs.size + 1) with
    | none => rfl
    | some o =>
      have z : hp.get? (hp.objs.size + 1) = some o := X _ _ e
      exact absurd (Nat.lt_of_succ_lt (Heap.lt_size z)) (Nat.lt_irrefl _)
  refine call_own F.excBase_ValueError (fun X => refsVE_contains X bm hbm) (X _ _ hC) (looks_findIn X T.iC) (fun self => bind_fn X self T.tC) (one_size v) ?_
  refine low_init (s := ⟨(hp.push (kdv_tup [v])).push (excO C hp.objs.size), g, dr, tk, os⟩) T (X.keeps k) (hlim.keeps k) hget hnx ?_ fun h' tk' dx ⟨k', hx, dn, dne, hns⟩ => ?_
  · show A.depth + 1 < recursionLimit
    exact hroom
  · have old : ∀ b o, hp.get? b = some o → h'.get? b = some o := fun b o e => k' b o (Nat.ne_of_lt (Nat.lt_succ_of_lt (Heap.lt_size e))) (k b o e)
    have z : hp.objs.size + 1 + 1 ≤ dx := by
      first
        | (simpa only [Heap.size_push] using dn)
        | exact dn
        | (have q := dn; rw [Heap.size_push, Heap.size_push] at q; exact q)
    exact ⟨rfl, hq h' tk' (hp.objs.size + 1) dx ⟨old, Nat.le_succ _, ⟨_, _, hx, rfl, rfl, rfl, rfl, rfl⟩, Nat.le_trans (Nat.le_trans (Nat.le_succ _) (Nat.le_succ _)) z, dne, hns⟩⟩
end
end LowX_InvalidText
end PySem
namespace L2N
open L2 PySem PySem.Spec PyProof.Rows
theorem relO_low_InvalidText {v : V} {v' : Value} (r : RelV v v') (f : Str) : RelO (List.lookup f [(("row" : Str), v)]) (if f = "row" then some v' else none) := by
  by_cases hw : f = "row"
  · subst hw
    rw [if_pos rfl]
    have q : List.lookup ("row" : Str) [(("row" : Str), v)] = some v := by simp [List.lookup]
    rw [q]
    exact r
  · rw [if_neg hw]
    have qw : (f == ("row" : Str)) = false := by simpa using hw
    have q2 : List.lookup f [(("row" : Str), v)] = none := by simp [List.lookup, qw]
    rw [q2]
    trivial
section
variable {X : Cx} {C fI : Addr}
/-- Low(e) -/
def tMkLow_InvalidText (C : Addr) (ta : TA) : St → Hp → XK → Prop := fun σ H Q => ta σ H fun vs H1 => ∃ v, vs = [v] ∧ ∀ d, H1 d = none → Q (.ref C) (some d) (upd H1 d (.xd [(("row" : Str), v)]))
theorem pmk_low_InvalidText {a : Expr} {ta : TA} {p pos : Pos} {k : Nat} (T : PySem.LowX_InvalidText.LowTxt X.K X.mg C fI) (hr : Room k X.A) (ha : PA X [a] ta) (hg : Gl X "InvalidText" := by rfl)
    (he : starEach (a :: []) X.env = (false, eval a X.env) :: starEach [] X.env := by rfl) (hpl : (backTo pos (starEach [] X.env)).any (·.1) = false := by rfl) :
    PMk X (.Call (.Name "InvalidText" p) [a] [] pos) (tMkLow_InvalidText C ta) := by
  intro pins s σ H Q I h
  refine wpAny_Call_Name_kw (ld_glob I hg T.gC ?_)
  refine PySem.W.callWith_K (h₀ := X.base) I.ok.mod.kin T.kC (thn (ha.run pos pins s σ H _ I h) fun us s1 hh => ?_) he hpl
  obtain ⟨vs, H1, I1, r1, v, ev, q1⟩ := hh
  subst ev
  refine ⟨I1.kIn, ?_⟩
  cases r1 with
  | cons rv rn =>
    rename_i v' us'
    cases rn
    show wpAny _ _ (call (.ref C) [v']) _ _ _
    have hlim := I1.nolimit
    obtain ⟨hp, g, dr, tk, os⟩ := s1
    refine wpAny_call (PySem.LowX_InvalidText.low_made T I1.kIn hlim (by have := hr.dp; omega) fun h' tk' e d M => ?_)
    show MkP X pins σ Q (.ref e) ⟨h', g, dr, tk', os⟩
    obtain ⟨oe, fv, hoe, hc, hd, hdat, h1, h2⟩ := M.obj
    have hns := M.ns
    obtain ⟨G', g1, g2⟩ := restrict h' fun b => decide (b ≠ e)
    have gk : ∀ b, b ≠ e → G'.get? b = h'.get? b := fun b hb => g1 b (decide_eq_true hb)
    have ge : G'.get? e = none := g2 e (by simp)
    have old : ∀ b o, hp.get? b = some o → G'.get? b = some o := fun b o q => (gk b (Nat.ne_of_lt (Nat.lt_of_lt_of_le (Heap.lt_size q) M.new))).trans (M.keep b o q)
    have ob : ObjOk X.prog X.w (upd H1 d (.xd [(("row" : Str), v)])) G' d (.xd [(("row" : Str), v)]) :=
      ⟨_, hns.at (fun o q => (gk d M.dne).trans q), fun f => relO_low_InvalidText rv f⟩
    have J : Inv X pins σ (upd H1 d (.xd [(("row" : Str), v)])) ⟨G', g, dr, tk', os⟩ := I1.laid (t' := tk') old M.dbig ob
    refine ⟨e, oe, fv, ⟨G', g, dr, tk', os⟩, _, .ref C, some d, rfl, J, fun b o q => ?_, ge, hoe, ⟨hc, hd, fun vs0 e0 => by rw [hdat] at e0; cases e0; exact h2⟩, hdat, h1, ?_, rfl, I1.bare, raises_own T.exC T.tyC, q1 d (I1.hok.fresh M.dbig)⟩
    · by_cases hb : b = e
      · have q' : G'.get? b = some o := q
        rw [hb, ge] at q'; cases q'
      · exact (gk b hb).symm.trans q
    · rw [upd_ne (Ne.symm M.dne)]
      exact I1.hok.fresh M.new
/-- raise Low(e) -/
def tRaiseLow_InvalidText (C : Addr) (W : WX) (ta : TA) : TS := fun _ σ H => tMkLow_InvalidText C ta σ H fun cls d H' => W cls d σ H'
theorem ps_raiseLow_InvalidText {a : Expr} {ta : TA} {W : WX} {p pos pos2 : Pos} {k : Nat} (hc : X.calm = true) (T : PySem.LowX_InvalidText.LowTxt X.K X.mg C fI) (hr : Room k X.A) (tk : Takes X W) (ha : PA X [a] ta) (hg : Gl X "InvalidText" := by rfl)
    (he : starEach (a :: []) X.env = (false, eval a X.env) :: starEach [] X.env := by rfl) (hpl : (backTo pos (starEach [] X.env)).any (·.1) = false := by rfl) :
    PS X (.Raise (some (.Call (.Name "InvalidText" p) [a] [] pos)) none pos2) (tRaiseLow_InvalidText C W ta) := ps_raise hc tk (pmk_low_InvalidText T hr ha hg he hpl)
/-- low.by, low the exception that the suite holds (at a; its class cls, its dict d) -/
def tByLow_InvalidText (C : Addr) (a : Addr) (cls : Value) (d : Option Addr) (te : TE) : TE := fun σ H Q => te σ H fun x H1 => x = .ref a ∧ cls = .ref C ∧ ∃ (dd : Addr) (v : V), d = some dd ∧ H1 dd = some (.xd [(("row" : Str), v)]) ∧ Q v H1
end
end L2N


namespace PV
open PySem PySem.Spec L2
section
variable {G : Gx} {W : WX} {ios : List Nat} {X : Cx} {ga : Ev} {g : Sm}
theorem s_raise_InvalidText {c : Nat} {C fI : Addr} {a : Expr} {p pos pos2 : Pos} {k : Nat} (hc : X.calm = true) (T : PySem.LowX_InvalidText.LowTxt X.K X.mg C fI) (hr : Room k X.A) (tk : L2N.Takes X W) (hC : G.ca c = C) (hn : G.cn c = [("row" : Str)]) (ha : PEv X G W ios a ga) (hg : Gl X "InvalidText" := by rfl)
    (hpa : starEach [a] X.env = (false, eval a X.env) :: starEach [] X.env := by rfl) (hpl : (backTo pos (starEach [] X.env)).any (·.1) = false := by rfl) : PSv X G W ios (.Raise (some (.Call (.Name "InvalidText" p) [a] [] pos)) none pos2) (sRaise c ga) :=
  ps_imp (L2N.ps_raiseLow_InvalidText hc T hr tk (pa_cons ha pa_nil hpa) hg hpa hpl) fun D σ H q => raise_end hC hn q
end
end PV

namespace PySem
namespace LowX_NotLawful
open PySem.W PySem.Calls PyProof.Rows PySem.HandSPX
/-! ### the text of __init__ -/
def iA (p1 p2 : Pos) : Arguments := { posonlyargs := [], args := [{ arg := "self", annotation := none, pos := p1 }, { arg := "day", annotation := none, pos := p2 }], vararg := none, kwonlyargs := [], kw_defaults := [], kwarg := none, defaults := [] }
def iB (q1 q2 q3 q4 : Pos) : List Stmt := [.Assign [.Attribute (.Name "self" q1) "day" q2] (.Name "day" q3) q4]
def iS : Scope := { kind := .function, names := [(PySem.Str.ofString "self", .local), (PySem.Str.ofString "day", .local)], isGenerator := false, isCoroutine := false, more := [] }
/-- what the written part says of Low, at C, and of its __init__, at fI -/
structure LowTxt (K : Frag) (mg : Str → Option Value) (C fI : Addr) : Prop where
  gC : mg "NotLawful" = some (.ref C)
  cls : ∃ nm q N bs bm sn sub ab col dd k0 k1 k2 k3 k5, K.lookup C = some (excClassObj nm q C N bs bm true sn sub ab col dd k0 k1 k2 k3 k5 "ValueError.__new__") ∧ refsVE bm = true
  sa : findIn K (.ref C) "__setattr__" = some (some (.builtin "object.__setattr__"))
  ga : findIn K (.ref C) "__getattribute__" = some (some (.builtin "BaseException.__getattribute__"))
  gg : findIn K (.ref C) "__getattr__" = some none
  noN : findIn K (.ref C) "day" = some none
  iC : findIn K (.ref C) "__init__" = some (some (.ref fI))
  tC : typeIn K (.ref fI) = some (.type "function")
  kC : keepIn K (.ref C) = true
  exC : subIn K (.ref C) (.type "BaseException") = some true
  tyC : typeIn K (.ref C) = some (.type "type")
  hdC : hasDictIn K C = true
  te : exmOne K (.ref C) (.ref C) = some true
  fn : ∃ (oc : Value) (od : Option Addr) (doc pm : Value) (an : Option Addr) (cdv ct : Value) (osl : Array (Option Value)) (p1 p2 q1 q2 q3 q4 : Pos),
    K.lookup fI = some ⟨oc, od, .func (fnOf "__init__" "NotLawful.__init__" (iA p1 p2) (iB q1 q2 q3 q4) iS .none .none doc pm an cdv ct), osl⟩ ∧ codeIn K cdv "NotLawful.__init__" = true
theorem one_size (v : Value) : [v].length ≤ sizeLine := by
  rw [sizeLine_eq]
  exact (by decide : 1 ≤ 16777216)
theorem ldC {M : Model} {s : Shared} {name : Str} {scope : Scope} {L a : Addr} {cd : Value} {m : Str → Option Value} {x : Str} {pos : Pos} {v : Value} {Q : Value → Shared → Prop} {A : Around} {E : Value → Shared → Prop} (hn : s.heap.Ns L m) (hv : m x = some v) (h : Q v s)
    (hk : scope.kind = .function := by rfl) (hl : (envOfC name scope L a cd).kindOf x = some .local := by rfl) (hd : (x == ("__debug__" : Str)) = false := by decide) :
    wpAny M A (eval (.Name x pos) (envOfC name scope L a cd)) Q E s := wpAny_Name (wpAny_loadName_local hk hl hn hv h) hd
/-- what __init__ leaves of a fresh exception at x -/
structure InitEnd (h h' : Heap) (x C dx t1 : Addr) (v : Value) : Prop where
  keep : ∀ b o, b ≠ x → h.get? b = some o → h'.get? b = some o
  obj : h'.get? x = some { cls := .ref C, dict := some dx, data := .fields #[.ref t1, .none, .none, .none, .bool false, .none] }
  dbig : h.objs.size ≤ dx
  dne : dx ≠ x
  ns : h'.Ns1 dx (fun y => if y = "day" then some v else none)
/-- a made Low -/
structure OwnMade (h h' : Heap) (e C d : Addr) (v : Value) : Prop where
  keep : ∀ b o, h.get? b = some o → h'.get? b = some o
  new : h.objs.size ≤ e
  obj : ∃ oe vs, h'.get? e = some oe ∧ oe.cls = .ref C ∧ oe.dict = some d ∧ oe.data = .fields vs ∧ vs[1]? = some .none ∧ vs[2]? = some .none
  dbig : h.objs.size ≤ d
  dne : d ≠ e
  ns : h'.Ns1 d (fun y => if y = "day" then some v else none)
section
variable {prog : Program} {w : World} {A : Around} {E : Value → Shared → Prop} {R : Result → Shared → Prop} {s : Shared} {K : Frag} {mg : Str → Option Value} {C fI : Addr}
theorem low_init (T : LowTxt K mg C fI) {x t0 : Addr} {v : Value} (X : K.In s.heap) (hlim : s.heap.NoLimit) (hx : s.heap.get? x = some (excO C t0)) (hnx : K.lookup x = none) (hroom : A.depth < recursionLimit)
    (hq : ∀ h' tk dx, InitEnd s.heap h' x C dx t0 v → R (.ok (.ret .none)) { s with heap := h', toks := tk }) :
    codeAny (model prog w) A (.call (.ref fI) ⟨[.ref x, v], []⟩) R s := by
  obtain ⟨oc, od, doc, pm, an, cdv, ct, osl, p1, p2, q1, q2, q3, q4, ho, hcd⟩ := T.fn
  obtain ⟨nm, q, N, bs, bm, sn, sub, ab, col, dd, k0, k1, k2, k3, k5, hC, hbm⟩ := T.cls
  have hcl : clsIn K C = some { name := nm, bases := bs, mro := .ref C :: bm, ns := N, qualname := q, hasDict := true, slotNames := sn, subclasses := sub, abstract := ab, collection := col, hasDel := false } := by unfold clsIn; rw [hC] <;> rfl
  refine Att.call_fn (binds := [("self", .ref x), ("day", v)]) X hlim ho hcd hroom (BindsTo.of_eq (by first | rfl | with_unfolding_all rfl)) (by first | rfl | decide | with_unfolding_all rfl) (fun s₁ IC => ?_) rfl rfl rfl
  obtain ⟨h₁, tk₁, rfl⟩ := IC.toInCall.same
  have k : ∀ b o, s.heap.get? b = some o → h₁.get? b = some o := IC.toInCall.keep
  have hn := IC.toInCall.ns
  have hxL : s.heap.objs.size ≠ x := Nat.ne_of_gt (Heap.lt_size hx)
  have X₁ : K.In h₁ := X.keeps k
  have hx₁ := k _ _ hx
  -- self.by = by
  show wpAny _ _ (execs _ _) _ _ _
  refine wpAny_execs_cons (plainObj_wpAny_Assign_Attribute ?_)
  refine ldC (v := v) hn (by first | rfl | with_unfolding_all rfl | kernel_rfl) (ldC (v := .ref x) hn (by first | rfl | with_unfolding_all rfl | kernel_rfl) ?_)
  refine set_plain X₁ (ox := excO C t0) (od := none) ⟨hx₁, rfl, rfl, trivial⟩ T.sa ?_
  refine exc_osa X₁ hx₁ hcl (show refsVE (.ref C :: bm) = true from hbm) rfl T.noN (fun h₃ tk₃ dx k₃ dn dne hx₃ hn₃ => ?_)
  show wpAny _ _ (execs _ _) _ _ _
  have z : s.heap.objs.size < h₁.objs.size := hn.lt
  exact wpAny_execs_nil (hq h₃ tk₃ dx ⟨fun b o hb e => k₃ b o hb (k b o e), hx₃, Nat.le_of_lt (Nat.lt_of_lt_of_le z dn), dne, hn₃⟩)
theorem low_made (T : LowTxt K mg C fI) {v : Value} (X : K.In s.heap) (hlim : s.heap.NoLimit) (hroom : A.depth + 1 < recursionLimit)
    (hq : ∀ h' tk e d, OwnMade s.heap h' e C d v → R (.ok (.ret (.ref e))) { s with heap := h', toks := tk }) :
    codeAny (model prog w) A (.call (.ref C) ⟨[v], []⟩) R s := by
  obtain ⟨nm, q, N, bs, bm, sn, sub, ab, col, dd, k0, k1, k2, k3, k5, hC, hbm⟩ := T.cls
  obtain ⟨hp, g, dr, tk, os⟩ := s
  have k : ∀ b o, hp.get? b = some o → ((hp.push (kdv_tup [v])).push (excO C hp.objs.size)).get? b = some o := fun b o e => Heap.get?_push_of_some _ (Heap.get?_push_of_some _ e)
  have hget : ((hp.push (kdv_tup [v])).push (excO C hp.objs.size)).get? (hp.objs.size + 1) = some (excO C hp.objs.size) := by heap_get
  have hnx : K.lookup (hp.objs.size + 1) = none := by
    cases e : K.lookup (hp.objs.size + 1) with
    | none => rfl
    | some o =>
      have z : hp.get? (hp.objs.size + 1) = some o := X _ _ e
      exact absurd (Nat.lt_of_succ_lt (Heap.lt_size z)) (Nat.lt_irrefl _)
  refine call_own F.excBase_ValueError (fun X => refsVE_contains X bm hbm) (X _ _ hC) (looks_findIn X T.iC) (fun self => bind_fn X self T.tC) (one_size v) ?_
  refine low_init (s := ⟨(hp.push (kdv_tup [v])).push (excO C hp.objs.size), g, dr, tk, os⟩) T (X.keeps k) (hlim.keeps k) hget hnx ?_ fun h' tk' dx ⟨k', hx, dn, dne, hns⟩ => ?_
  · show A.depth + 1 < recursionLimit
    exact hroom
  · have old : ∀ b o, hp.get? b = some o → h'.get? b = some o := fun b o e => k' b o (Nat.ne_of_lt (Nat.lt_succ_of_lt (Heap.lt_size e))) (k b o e)
    have z : hp.objs.size + 1 + 1 ≤ dx := by
      first
        | (simpa only [Heap.size_push] using dn)
        | exact dn
        | (have q := dn; rw [Heap.size_push, Heap.size_push] at q; exact q)
    exact ⟨rfl, hq h' tk' (hp.objs.size + 1) dx ⟨old, Nat.le_succ _, ⟨_, _, hx, rfl, rfl, rfl, rfl, rfl⟩, Nat.le_trans (Nat.le_trans (Nat.le_succ _) (Nat.le_succ _)) z, dne, hns⟩⟩
end
end LowX_NotLawful
end PySem
namespace L2N
open L2 PySem PySem.Spec PyProof.Rows
theorem relO_low_NotLawful {v : V} {v' : Value} (r : RelV v v') (f : Str) : RelO (List.lookup f [(("day" : Str), v)]) (if f = "day" then some v' else none) := by
  by_cases hw : f = "day"
  · subst hw
    rw [if_pos rfl]
    have q : List.lookup ("day" : Str) [(("day" : Str), v)] = some v := by simp [List.lookup]
    rw [q]
    exact r
  · rw [if_neg hw]
    have qw : (f == ("day" : Str)) = false := by simpa using hw
    have q2 : List.lookup f [(("day" : Str), v)] = none := by simp [List.lookup, qw]
    rw [q2]
    trivial
section
variable {X : Cx} {C fI : Addr}
/-- Low(e) -/
def tMkLow_NotLawful (C : Addr) (ta : TA) : St → Hp → XK → Prop := fun σ H Q => ta σ H fun vs H1 => ∃ v, vs = [v] ∧ ∀ d, H1 d = none → Q (.ref C) (some d) (upd H1 d (.xd [(("day" : Str), v)]))
theorem pmk_low_NotLawful {a : Expr} {ta : TA} {p pos : Pos} {k : Nat} (T : PySem.LowX_NotLawful.LowTxt X.K X.mg C fI) (hr : Room k X.A) (ha : PA X [a] ta) (hg : Gl X "NotLawful" := by rfl)
    (he : starEach (a :: []) X.env = (false, eval a X.env) :: starEach [] X.env := by rfl) (hpl : (backTo pos (starEach [] X.env)).any (·.1) = false := by rfl) :
    PMk X (.Call (.Name "NotLawful" p) [a] [] pos) (tMkLow_NotLawful C ta) := by
  intro pins s σ H Q I h
  refine wpAny_Call_Name_kw (ld_glob I hg T.gC ?_)
  refine PySem.W.callWith_K (h₀ := X.base) I.ok.mod.kin T.kC (thn (ha.run pos pins s σ H _ I h) fun us s1 hh => ?_) he hpl
  obtain ⟨vs, H1, I1, r1, v, ev, q1⟩ := hh
  subst ev
  refine ⟨I1.kIn, ?_⟩
  cases r1 with
  | cons rv rn =>
    rename_i v' us'
    cases rn
    show wpAny _ _ (call (.ref C) [v']) _ _ _
    have hlim := I1.nolimit
    obtain ⟨hp, g, dr, tk, os⟩ := s1
    refine wpAny_call (PySem.LowX_NotLawful.low_made T I1.kIn hlim (by have := hr.dp; omega) fun h' tk' e d M => ?_)
    show MkP X pins σ Q (.ref e) ⟨h', g, dr, tk', os⟩
    obtain ⟨oe, fv, hoe, hc, hd, hdat, h1, h2⟩ := M.obj
    have hns := M.ns
    obtain ⟨G', g1, g2⟩ := restrict h' fun b => decide (b ≠ e)
    have gk : ∀ b, b ≠ e → G'.get? b = h'.get? b := fun b hb => g1 b (decide_eq_true hb)
    have ge : G'.get? e = none := g2 e (by simp)
    have old : ∀ b o, hp.get? b = some o → G'.get? b = some o := fun b o q => (gk b (Nat.ne_of_lt (Nat.lt_of_lt_of_le (Heap.lt_size q) M.new))).trans (M.keep b o q)
    have ob : ObjOk X.prog X.w (upd H1 d (.xd [(("day" : Str), v)])) G' d (.xd [(("day" : Str), v)]) :=
      ⟨_, hns.at (fun o q => (gk d M.dne).trans q), fun f => relO_low_NotLawful rv f⟩
    have J : Inv X pins σ (upd H1 d (.xd [(("day" : Str), v)])) ⟨G', g, dr, tk', os⟩ := I1.laid (t' := tk') old M.dbig ob
    refine ⟨e, oe, fv, ⟨G', g, dr, tk', os⟩, _, .ref C, some d, rfl, J, fun b o q => ?_, ge, hoe, ⟨hc, hd, fun vs0 e0 => by rw [hdat] at e0; cases e0; exact h2⟩, hdat, h1, ?_, rfl, I1.bare, raises_own T.exC T.tyC, q1 d (I1.hok.fresh M.dbig)⟩
    · by_cases hb : b = e
      · have q' : G'.get? b = some o := q
        rw [hb, ge] at q'; cases q'
      · exact (gk b hb).symm.trans q
    · rw [upd_ne (Ne.symm M.dne)]
      exact I1.hok.fresh M.new
/-- raise Low(e) -/
def tRaiseLow_NotLawful (C : Addr) (W : WX) (ta : TA) : TS := fun _ σ H => tMkLow_NotLawful C ta σ H fun cls d H' => W cls d σ H'
theorem ps_raiseLow_NotLawful {a : Expr} {ta : TA} {W : WX} {p pos pos2 : Pos} {k : Nat} (hc : X.calm = true) (T : PySem.LowX_NotLawful.LowTxt X.K X.mg C fI) (hr : Room k X.A) (tk : Takes X W) (ha : PA X [a] ta) (hg : Gl X "NotLawful" := by rfl)
    (he : starEach (a :: []) X.env = (false, eval a X.env) :: starEach [] X.env := by rfl) (hpl : (backTo pos (starEach [] X.env)).any (·.1) = false := by rfl) :
    PS X (.Raise (some (.Call (.Name "NotLawful" p) [a] [] pos)) none pos2) (tRaiseLow_NotLawful C W ta) := ps_raise hc tk (pmk_low_NotLawful T hr ha hg he hpl)
/-- low.by, low the exception that the suite holds (at a; its class cls, its dict d) -/
def tByLow_NotLawful (C : Addr) (a : Addr) (cls : Value) (d : Option Addr) (te : TE) : TE := fun σ H Q => te σ H fun x H1 => x = .ref a ∧ cls = .ref C ∧ ∃ (dd : Addr) (v : V), d = some dd ∧ H1 dd = some (.xd [(("day" : Str), v)]) ∧ Q v H1
end
end L2N


namespace PV
open PySem PySem.Spec L2
section
variable {G : Gx} {W : WX} {ios : List Nat} {X : Cx} {ga : Ev} {g : Sm}
theorem s_raise_NotLawful {c : Nat} {C fI : Addr} {a : Expr} {p pos pos2 : Pos} {k : Nat} (hc : X.calm = true) (T : PySem.LowX_NotLawful.LowTxt X.K X.mg C fI) (hr : Room k X.A) (tk : L2N.Takes X W) (hC : G.ca c = C) (hn : G.cn c = [("day" : Str)]) (ha : PEv X G W ios a ga) (hg : Gl X "NotLawful" := by rfl)
    (hpa : starEach [a] X.env = (false, eval a X.env) :: starEach [] X.env := by rfl) (hpl : (backTo pos (starEach [] X.env)).any (·.1) = false := by rfl) : PSv X G W ios (.Raise (some (.Call (.Name "NotLawful" p) [a] [] pos)) none pos2) (sRaise c ga) :=
  ps_imp (L2N.ps_raiseLow_NotLawful hc T hr tk (pa_cons ha pa_nil hpa) hg hpa hpl) fun D σ H q => raise_end hC hn q
end
end PV

namespace LW
open PySem PySem.Spec L2 PV
/-! the text -/
def topS (i : Nat) : Stmt := PySem.Challenge.pw_soldages_k02_texts_of_logs.main.body.getD i (.Pass ⟨0, 0, 0, 0⟩)
abbrev s__law_feed : Stmt := topS 15
abbrev N__law_feed : List Str := ["script", "k", "cell", "digits", "state"]
theorem sc__law_feed : FnScope N__law_feed ["script", "k"] (defScope s__law_feed) := ⟨rfl, rfl, rfl, by decide +kernel, rfl, by decide +kernel, by decide +kernel⟩
abbrev s__law_take : Stmt := topS 16
abbrev N__law_take : List Str := ["feed", "many", "digit"]
theorem sc__law_take : FnScope N__law_take ["feed", "many"] (defScope s__law_take) := ⟨rfl, rfl, rfl, by decide +kernel, rfl, by decide +kernel, by decide +kernel⟩
abbrev s__law_pick : Stmt := topS 17
abbrev N__law_pick : List Str := ["feed", "some"]
theorem sc__law_pick : FnScope N__law_pick ["feed", "some"] (defScope s__law_pick) := ⟨rfl, rfl, rfl, by decide +kernel, rfl, by decide +kernel, by decide +kernel⟩
abbrev s__law_text : Stmt := topS 22
abbrev N__law_text : List Str := ["days", "arrived", "left"]
theorem sc__law_text : FnScope N__law_text ["days"] (defScope s__law_text) := ⟨rfl, rfl, rfl, by decide +kernel, rfl, by decide +kernel, by decide +kernel⟩
abbrev s__law_days : Stmt := topS 18
abbrev N__law_days : List Str := ["feed", "days", "units", "found", "stock", "total", "busy", "day", "arrived", "left"]
theorem sc__law_days : FnScope N__law_days ["feed", "days", "units"] (defScope s__law_days) := ⟨rfl, rfl, rfl, by decide +kernel, rfl, by decide +kernel, by decide +kernel⟩
abbrev s__law_changed : Stmt := topS 26
abbrev N__law_changed : List Str := ["feed", "text", "sep", "some", "at", "other", "turn", "odd", "place"]
theorem sc__law_changed : FnScope N__law_changed ["feed", "text"] (defScope s__law_changed) := ⟨rfl, rfl, rfl, by decide +kernel, rfl, by decide +kernel, by decide +kernel⟩
abbrev s_stocks_of : Stmt := topS 11
abbrev N_stocks_of : List Str := ["days", "stocks", "day", "arrived", "left"]
theorem sc_stocks_of : FnScope N_stocks_of ["days"] (defScope s_stocks_of) := ⟨rfl, rfl, rfl, by decide +kernel, rfl, by decide +kernel, by decide +kernel⟩
abbrev s_repeated : Stmt := topS 12
abbrev N_repeated : List Str := ["days", "numbers", "day", "number", "turn"]
theorem sc_repeated : FnScope N_repeated ["days", "numbers"] (defScope s_repeated) := ⟨rfl, rfl, rfl, by decide +kernel, rfl, by decide +kernel, by decide +kernel⟩
abbrev s_Logx_initx : Stmt := inClass (topS 13) 0
abbrev N_Logx_initx : List Str := ["self", "days", "leaving", "numbers", "day", "arrived", "left"]
theorem sc_Logx_initx : FnScope N_Logx_initx ["self", "days"] (defScope s_Logx_initx) := ⟨rfl, rfl, rfl, by decide +kernel, rfl, by decide +kernel, by decide +kernel⟩
abbrev s_read_number : Stmt := topS 9
abbrev N_read_number : List Str := ["word", "digit"]
theorem sc_read_number : FnScope N_read_number ["word"] (defScope s_read_number) := ⟨rfl, rfl, rfl, by decide +kernel, rfl, by decide +kernel, by decide +kernel⟩
abbrev s_read_day : Stmt := topS 10
abbrev N_read_day : List Str := ["row", "numbers", "word"]
theorem sc_read_day : FnScope N_read_day ["row"] (defScope s_read_day) := ⟨rfl, rfl, rfl, by decide +kernel, rfl, by decide +kernel, by decide +kernel⟩
abbrev s_Log_parse : Stmt := inClass (topS 13) 1
abbrev N_Log_parse : List Str := ["cls", "text", "days", "units", "number", "row", "day"]
theorem sc_Log_parse : FnScope N_Log_parse ["cls", "text"] (defScope s_Log_parse) := ⟨rfl, rfl, rfl, by decide +kernel, rfl, by decide +kernel, by decide +kernel⟩
abbrev s_Logx_strx : Stmt := inClass (topS 13) 2
abbrev N_Logx_strx : List Str := ["self", "arrived", "left"]
theorem sc_Logx_strx : FnScope N_Logx_strx ["self"] (defScope s_Logx_strx) := ⟨rfl, rfl, rfl, by decide +kernel, rfl, by decide +kernel, by decide +kernel⟩
abbrev s__law_told : Stmt := topS 25
abbrev N__law_told : List Str := ["text", "caught", "found", "error"]
theorem sc__law_told : FnScope N__law_told ["text"] (defScope s__law_told) := ⟨rfl, rfl, rfl, by decide +kernel, rfl, by decide +kernel, by decide +kernel⟩
abbrev s__law_number : Stmt := topS 23
abbrev N__law_number : List Str := ["word", "sign"]
theorem sc__law_number : FnScope N__law_number ["word"] (defScope s__law_number) := ⟨rfl, rfl, rfl, by decide +kernel, rfl, by decide +kernel, by decide +kernel⟩
abbrev s__law_stock : Stmt := topS 21
abbrev N__law_stock : List Str := ["days", "day", "arrived", "left"]
theorem sc__law_stock : FnScope N__law_stock ["days", "day"] (defScope s__law_stock) := ⟨rfl, rfl, rfl, by decide +kernel, rfl, by decide +kernel, by decide +kernel⟩
abbrev s__law_due : Stmt := topS 24
abbrev N__law_due : List Str := ["text", "days", "number", "row", "values", "day", "word"]
theorem sc__law_due : FnScope N__law_due ["text"] (defScope s__law_due) := ⟨rfl, rfl, rfl, by decide +kernel, rfl, by decide +kernel, by decide +kernel⟩
abbrev s_law : Stmt := topS 27
abbrev N_law : List Str := ["script", "far", "k", "feed", "texts", "at", "bad", "rows", "turn", "text", "again"]
theorem sc_law : FnScope N_law ["script"] (defScope s_law) := ⟨rfl, rfl, rfl, by decide +kernel, rfl, by decide +kernel, by decide +kernel⟩
/-! the denotations -/
def d__law_feed : Sm := (sSeq (sSet 2 (eIf (eLt (eVar 1) (eLen (eVar 0))) (eIdx (eVar 0) (eVar 1)) (eAdd (eMul (eC (.int 83)) (eVar 1)) (eC (.int 29)))))
    (sSeq (sSet 3 (eMax2 (eC (.int 0)) (eSub (eAbs (eVar 2)) (ePow (eC (.int 10)) (eC (.int 18))))))
    (sSeq (sSet 4 (eMod (eAdd (eAdd (eMul (eVar 2) (eC (.int 6364136223846793005))) (eMul (eC (.int 7919)) (eVar 1))) (eC (.int 1442695040888963407))) (eC (.int 2305843009213693951))))
    (sRet (eLst (gCons (eF (eVar 3)) (gCons (eF (eVar 4)) gNil)))))))
def den__law_feed : Fn := defn 5 [] d__law_feed
def d__law_take : Sm := (sSeq (sIf (eGt (eIdx (eVar 0) (eC (.int 0))) (eC (.int 0)))
    (sSeq (sSet 2 (eMod (eIdx (eVar 0) (eC (.int 0))) (eVar 1)))
    (sSeq (sAsg (tgSub 0 (eC (.int 0))) (eDiv (eIdx (eVar 0) (eC (.int 0))) (eVar 1)))
    (sRet (eM (eVar 2)))))
    sNil)
    (sSeq (sAsg (tgSub 0 (eC (.int 1))) (eMod (eAdd (eMul (eIdx (eVar 0) (eC (.int 1))) (eC (.int 6364136223846793005))) (eC (.int 1442695040888963407))) (eC (.int 2305843009213693951))))
    (sRet (eMod (eDiv (eIdx (eVar 0) (eC (.int 1))) (eC (.int 65536))) (eVar 1)))))
def den__law_take : Fn := defn 3 [0] d__law_take
def d__law_pick : Sm := (sRet (eIdx (eVar 1) (eCall den__law_take [.io, .b] (gCons (eVar 0) (gCons (eLen (eVar 1)) gNil)))))
def den__law_pick : Fn := defn 2 [0] d__law_pick
def d__law_text : Sm := (sRet (eJoin (eC (.str "\n")) (eComp (itSeq (eVar 0)) [1, 2] (tgTup (tgsCons (tgN 1) (tgsCons (tgN 2) tgsNil))) eTrue (eAdd (eAdd (eStrI (eVar 1)) (eC (.str " "))) (eStrI (eVar 2))))))
def den__law_text : Fn := defn 3 [] d__law_text
def d__law_days : Sm := (sSeq (sPar [3, 4, 5] (gCons (eLst gNil) (gCons (eC (.int 0)) (gCons (eC (.int 0)) gNil))))
    (sSeq (sSet 6 (eCall den__law_pick [.io, .b] (gCons (eVar 0) (gCons (eLst (gCons (eC (.int 1)) (gCons (eC (.int 2)) (gCons (eC (.int 4)) (gCons (eC (.int 8)) gNil))))) gNil))))
    (sSeq (sFor (itR1 (eVar 1)) (tgN 7)
    (sSeq (sSet 8 (eMin2 (eSub (eVar 2) (eVar 5)) (eCall den__law_pick [.io, .b] (gCons (eVar 0) (gCons (eLst (gCons (eC (.int 0)) (gCons (eC (.int 1)) (gCons (eC (.int 1)) (gCons (eCall den__law_take [.io, .b] (gCons (eVar 0) (gCons (eAdd (eVar 6) (eC (.int 1))) gNil))) gNil))))) gNil)))))
    (sSeq (sPar [5, 4] (gCons (eAdd (eVar 5) (eVar 8)) (gCons (eAdd (eVar 4) (eVar 8)) gNil)))
    (sSeq (sSet 9 (eMin2 (eVar 4) (eCall den__law_pick [.io, .b] (gCons (eVar 0) (gCons (eLst (gCons (eC (.int 0)) (gCons (eC (.int 1)) (gCons (eF (eVar 4)) (gCons (eCall den__law_take [.io, .b] (gCons (eVar 0) (gCons (eAdd (eVar 4) (eC (.int 1))) gNil))) gNil))))) gNil)))))
    (sSeq (sSet 4 (eSub (eVar 4) (eVar 9)))
    (sExpr (eLm opApp 3 (gCons (eTup (gCons (eF (eVar 8)) (gCons (eF (eVar 9)) gNil))) gNil))))))))
    (sRet (eM (eVar 3))))))
def den__law_days : Fn := defn 10 [0] d__law_days
def d__law_changed : Sm := (sSeq (sSet 2 (eCall den__law_pick [.io, .b] (gCons (eVar 0) (gCons (eLst (gCons (eC (.str "\n")) (gCons (eC (.str "\n")) (gCons (eC (.str " ")) gNil)))) gNil))))
    (sSeq (sSet 3 (eSplit (eVar 1) (eVar 2)))
    (sSeq (sPar [4, 5] (gCons (eCall den__law_take [.io, .b] (gCons (eVar 0) (gCons (eLen (eVar 3)) gNil))) (gCons (eCall den__law_take [.io, .b] (gCons (eVar 0) (gCons (eLen (eVar 3)) gNil))) gNil)))
    (sSeq (sSet 6 (eCall den__law_take [.io, .b] (gCons (eVar 0) (gCons (eC (.int 6)) gNil))))
    (sSeq (sSet 7 (eLst (gCons (eC (.str "")) (gCons (eC (.str "0")) (gCons (eC (.str "1 1")) (gCons (eC (.str "0 1")) (gCons (eC (.str "41 0")) (gCons (eC (.str "01")) (gCons (eC (.str "-1")) (gCons (eC (.str "+1")) (gCons (eC (.str "1_0")) (gCons (eC (.str "x")) (gCons (eC (.str "1 0 0")) (gCons (eC (.str "5")) (gCons (eC (.str "0 99")) (gCons (eC (.str "1.0")) (gCons (eMulS (eC (.str "9")) (eC (.int 5000))) gNil)))))))))))))))))
    (sSeq (sIf (eEq (eVar 6) (eC (.int 0)))
    (sExpr (eLm opPopAt 3 (gCons (eF (eVar 4)) gNil)))
    (sIf (eEq (eVar 6) (eC (.int 1)))
    (sExpr (eLm opIns 3 (gCons (eF (eVar 5)) (gCons (eIdx (eVar 3) (eVar 4)) gNil))))
    (sIf (eEq (eVar 6) (eC (.int 2)))
    (sAsg (tgTup (tgsCons (tgSub 3 (eVar 4)) (tgsCons (tgSub 3 (eVar 5)) tgsNil))) (eTup (gCons (eIdx (eVar 3) (eVar 5)) (gCons (eIdx (eVar 3) (eVar 4)) gNil))))
    (sIf (eEq (eVar 6) (eC (.int 3)))
    (sAsg (tgSub 3 (eVar 4)) (eCall den__law_pick [.io, .b] (gCons (eVar 0) (gCons (eVar 7) gNil))))
    (sIf (eEq (eVar 6) (eC (.int 4)))
    (sExpr (eLm opIns 3 (gCons (eF (eVar 4)) (gCons (eCall den__law_pick [.io, .b] (gCons (eVar 0) (gCons (eVar 7) gNil))) gNil))))
    (sSeq (sSet 8 (eCall den__law_take [.io, .b] (gCons (eVar 0) (gCons (eAdd (eLen (eVar 1)) (eC (.int 1))) gNil))))
    (sRet (eAdd (eAdd (eSl (eVar 1) none (some (eVar 8))) (eCall den__law_pick [.io, .b] (gCons (eVar 0) (gCons (eC (.str " \n0123459-_xA")) gNil)))) (eSl (eVar 1) (some (eAdd (eVar 8) (eCall den__law_take [.io, .b] (gCons (eVar 0) (gCons (eC (.int 2)) gNil))))) none)))))))))
    (sRet (eJoin (eVar 2) (eVar 3)))))))))
def den__law_changed : Fn := defn 9 [0] d__law_changed
def d_stocks_of : Sm := (sSeq (sSet 1 (eLst gNil))
    (sSeq (sFor (itEnA (eVar 0)) (tgTup (tgsCons (tgN 2) (tgsCons (tgTup (tgsCons (tgN 3) (tgsCons (tgN 4) tgsNil))) tgsNil)))
    (sSeq (sExpr (eLm opApp 1 (gCons (eSub (eAdd (eIf (eNe (eVar 1) (eLst gNil)) (eIdx (eVar 1) (eNeg (eC (.int 1)))) (eC (.int 0))) (eVar 3)) (eVar 4)) gNil)))
    (sIf (eLt (eIdx (eVar 1) (eNeg (eC (.int 1)))) (eC (.int 0)))
    (sRaise 2 (eF (eVar 2)))
    sNil)))
    (sRet (eM (eVar 1)))))
def den_stocks_of : Fn := defn 5 [] d_stocks_of
def d_repeated : Sm := (sRet (eTuple (eCompR (itZip (eVar 0) (eVar 1)) [2, 3, 4] (tgTup (tgsCons (tgN 2) (tgsCons (tgN 3) tgsNil))) (eVar 3) [4] (tgN 4) (eF (eVar 2)))))
def den_repeated : Fn := defn 5 [] d_repeated
def d_Logx_initx : Sm := (sSeq (sFst 3 0 0 (eF (eTuple (eComp (itSeq (eVar 1)) [4] (tgN 4) eTrue (eTuple (eVar 4))))))
    (sSeq (sFst 3 1 0 (eF (eCall den_stocks_of [.b] (gCons (eFld 3 0 (eVar 0)) gNil))))
    (sSeq (sSet 2 (eComp (itSeq (eFld 3 0 (eVar 0))) [5, 6] (tgTup (tgsCons (tgN 5) (tgsCons (tgN 6) tgsNil))) eTrue (eF (eVar 6))))
    (sSeq (sAugSub 2 (eNeg (eC (.int 1))) (fun i j => i + j) (eIdx (eFld 3 1 (eVar 0)) (eNeg (eC (.int 1)))))
    (sSeq (sSet 3 (eTupR false eZ (eLen (eFld 3 0 (eVar 0)))))
    (sSeq (sFst 3 2 0 (eF (eCall den_repeated [.b, .b] (gCons (eVar 3) (gCons (eComp (itSeq (eFld 3 0 (eVar 0))) [5, 6] (tgTup (tgsCons (tgN 5) (tgsCons (tgN 6) tgsNil))) eTrue (eF (eVar 5))) gNil)))))
    (sFst 3 3 0 (eF (eCall den_repeated [.b, .b] (gCons (eVar 3) (gCons (eVar 2) gNil)))))))))))
def den_Logx_initx : Fn := defn 7 [0] d_Logx_initx
def d_read_number : Sm := (sSeq (sIf (eOr (eEq (eVar 0) (eC (.str ""))) (eOr (eNot (eAll (eComp (itTxt (eVar 0)) [1] (tgN 1) eTrue (eInT (eVar 1) (eC (.str "0123456789")))))) (eAnd (eEq (eIxS (eVar 0) (eC (.int 0))) (eC (.str "0"))) (eGt (eLen (eVar 0)) (eC (.int 1))))))
    (sRet eN)
    sNil)
    (sRet (eM (eIf (eGt (eLen (eVar 0)) (eC (.int 9))) (eC (.int 1000000000)) (eIntT (eVar 0))))))
def den_read_number : Fn := defn 2 [] d_read_number
def d_read_day : Sm := (sSeq (sSet 1 (eComp (itSeq (eSplit (eVar 0) (eC (.str " ")))) [2] (tgN 2) eTrue (eCall den_read_number [.b] (gCons (eVar 2) gNil))))
    (sRet (eIf (eOr (eNe (eLen (eVar 1)) (eC (.int 2))) (eInE eN (eVar 1))) eN (eTuple (eVar 1)))))
def den_read_day : Fn := defn 3 [] d_read_day
def d_Log_parse : Sm := (sSeq (sPar [2, 3] (gCons (eLst gNil) (gCons (eC (.int 0)) gNil)))
    (sSeq (sFor (itEnA (eSplit (eVar 1) (eC (.str "\n")))) (tgTup (tgsCons (tgN 4) (tgsCons (tgN 5) tgsNil)))
    (sSeq (sSet 6 (eCall den_read_day [.b] (gCons (eVar 5) gNil)))
    (sSeq (sIf (eOr (eIsN (eVar 6) eN) (eOr (eEq (eVar 4) (eC (.int 60))) (eGt (eAdd (eVar 3) (eIdx (eVar 6) (eC (.int 0)))) (eC (.int 40)))))
    (sRaise 1 (eF (eVar 4)))
    sNil)
    (sSeq (sAug 3 addI2 (eIdx (eVar 6) (eC (.int 0))))
    (sExpr (eLm opApp 2 (gCons (eF (eVar 6)) gNil)))))))
    (sRet (eMakeL 0 3 den_Logx_initx [.b] (gCons (eVar 2) gNil) gNil []))))
def den_Log_parse : Fn := defn 7 [] d_Log_parse
def d_Logx_strx : Sm := (sRet (eJoin (eC (.str "\n")) (eComp (itSeq (eFld 3 0 (eVar 0))) [1, 2] (tgTup (tgsCons (tgN 1) (tgsCons (tgN 2) tgsNil))) eTrue (eAdd (eAdd (eStrI (eVar 1)) (eC (.str " "))) (eStrI (eVar 2))))))
def den_Logx_strx : Fn := defn 3 [] d_Logx_strx
def d__law_told : Sm := (sSeq (sAsg (tgTup (tgsCons (tgN 1) (tgsCons (tgN 2) tgsNil))) (eTup (gCons eN (gCons eN gNil))))
    (sSeq (sTryK [1, 2] (fun c => decide (c ∈ ([1, 2] : List Nat))) 3 1
    (sSet 2 (eCM 3 den_Log_parse [.b] (gCons (eVar 0) gNil))))
    (sSeq (sIf (eIsN (eVar 1) eN)
    (sRet (eIf (eIsC 3 (eVar 2)) (eStrO 3 den_Logx_strx [.b] (eVar 2)) (eC (.str "wrong"))))
    sNil)
    (sSeq (sIf (eIsE [1, 2] (fun c => decide (c ∈ ([1] : List Nat))) (eVar 1))
    (sRet (eTup (gCons (eC (.str "text")) (gCons (eErr 1 (eVar 1)) gNil))))
    sNil)
    (sRet (eIf (eIsE [1, 2] (fun c => decide (c ∈ ([2] : List Nat))) (eVar 1)) (eTup (gCons (eC (.str "day")) (gCons (eErr 2 (eVar 1)) gNil))) (eC (.str "wrong"))))))))
def den__law_told : Fn := defn 4 [] d__law_told
def d__law_number : Sm := (sSeq (sIf (eOr (eEq (eVar 0) (eC (.str ""))) (eNe (eComp (itTxt (eVar 0)) [1] (tgN 1) (eNotInT (eVar 1) (eC (.str "0123456789"))) (eF (eVar 1))) (eLst gNil)))
    (sRet eN)
    sNil)
    (sSeq (sIf (eAnd (eEq (eIxS (eVar 0) (eC (.int 0))) (eC (.str "0"))) (eNe (eVar 0) (eC (.str "0"))))
    (sRet eN)
    sNil)
    (sRet (eIf (eLt (eLen (eVar 0)) (eC (.int 10))) (eIntT (eVar 0)) (ePow (eC (.int 10)) (eC (.int 9)))))))
def den__law_number : Fn := defn 2 [] d__law_number
def d__law_stock : Sm := (sRet (eSumA (eComp (itSeq (eSl (eVar 0) none (some (eAdd (eVar 1) (eC (.int 1)))))) [2, 3] (tgTup (tgsCons (tgN 2) (tgsCons (tgN 3) tgsNil))) eTrue (eSub (eVar 2) (eVar 3)))))
def den__law_stock : Fn := defn 4 [] d__law_stock
def d__law_due : Sm := (sSeq (sSet 1 (eLst gNil))
    (sSeq (sFor (itEnA (eSplit (eVar 0) (eC (.str "\n")))) (tgTup (tgsCons (tgN 2) (tgsCons (tgN 3) tgsNil)))
    (sSeq (sSet 4 (eComp (itSeq (eSplit (eVar 3) (eC (.str " ")))) [6] (tgN 6) eTrue (eCall den__law_number [.b] (gCons (eVar 6) gNil))))
    (sSeq (sIf (eOr (eNe (eLen (eVar 4)) (eC (.int 2))) (eOr (eInE eN (eVar 4)) (eGt (eVar 2) (eC (.int 59)))))
    (sRet (eTup (gCons (eC (.str "text")) (gCons (eF (eVar 2)) gNil))))
    sNil)
    (sSeq (sExpr (eLm opApp 1 (gCons (eTup (gCons (eIdx (eVar 4) (eC (.int 0))) (gCons (eIdx (eVar 4) (eC (.int 1))) gNil))) gNil)))
    (sIf (eGt (eSumA (eBor 1 (eComp (itSeq (eVar 1)) [5] (tgN 5) eTrue (eIdx (eVar 5) (eC (.int 0)))))) (eC (.int 40)))
    (sRet (eTup (gCons (eC (.str "text")) (gCons (eF (eVar 2)) gNil))))
    sNil)))))
    (sSeq (sFor (itR1 (eLen (eVar 1))) (tgN 5)
    (sIf (eLt (eCall den__law_stock [.b, .b] (gCons (eVar 1) (gCons (eVar 5) gNil))) (eC (.int 0)))
    (sRet (eTup (gCons (eC (.str "day")) (gCons (eF (eVar 5)) gNil))))
    sNil))
    (sRet (eM (eVar 0))))))
def den__law_due : Fn := defn 7 [] d__law_due
def d_law : Sm := (sSeq (sSet 1 (eMulS (eC (.str "9")) (eC (.int 5000))))
    (sSeq (sFor (itR1 (eMax2 (eC (.int 2)) (eMin2 (eC (.int 4)) (eLen (eVar 0))))) (tgN 2)
    (sSeq (sSet 3 (eCall den__law_feed [.b, .b] (gCons (eVar 0) (gCons (eVar 2) gNil))))
    (sSeq (sSet 4 (eLst (gCons (eC (.str "")) (gCons (eC (.str "\n")) (gCons (eC (.str " ")) (gCons (eC (.str "0 0")) (gCons (eC (.str "0 1")) (gCons (eC (.str "40 0")) (gCons (eC (.str "41 0")) (gCons (eC (.str "20 0\n21 0")) (gCons (eC (.str "1 0\n0 2\nx")) (gCons (eC (.str "0 1\n0 1")) gNil))))))))))))
    (sSeq (sSet 4 (eAdd (eVar 4) (eLst (gCons (eC (.str "1 2\n41 0")) (gCons (eAdd (eC (.str "0 ")) (eVar 1)) (gCons (eAdd (eVar 1) (eC (.str " 0"))) (gCons (eAdd (eC (.str "1 0\n0 1")) (eMulS (eC (.str "0")) (eC (.int 5000)))) (gCons (eC (.str "0 0\n")) (gCons (eC (.str "\n0 0")) gNil)))))))))
    (sSeq (sSet 4 (eAdd (eVar 4) (eLst (gCons (eC (.str "0  0")) (gCons (eC (.str "0 0 ")) (gCons (eC (.str " 0 0")) (gCons (eC (.str "40 40")) (gCons (eC (.str "40 41")) (gCons (eC (.str "1_0 0")) (gCons (eC (.str "1 1_0")) gNil))))))))))
    (sSeq (sPar [5, 6] (gCons (eCall den__law_take [.io, .b] (gCons (eVar 3) (gCons (eC (.int 64)) gNil))) (gCons (eCall den__law_pick [.io, .b] (gCons (eVar 3) (gCons (eLst (gCons (eC (.str "x")) (gCons (eC (.str "")) (gCons (eC (.str "01 0")) (gCons (eC (.str "1 0 0")) (gCons (eC (.str "41 0")) gNil)))))) gNil))) gNil)))
    (sSeq (sFor (itSeq (eLst (gCons (eAdd (eAdd (eMul (eLst (gCons (eC (.str "0 0")) gNil)) (eVar 5)) (eLst (gCons (eF (eVar 6)) gNil))) (eMul (eLst (gCons (eC (.str "0 0")) gNil)) (eC (.int 62)))) (gCons (eAdd (eMul (eLst (gCons (eC (.str "1 0")) gNil)) (eC (.int 41))) (eMul (eLst (gCons (eC (.str "0 0")) gNil)) (eC (.int 30)))) gNil)))) (tgN 7)
    (sExpr (eLm opApp 4 (gCons (eJoin (eC (.str "\n")) (eVar 7)) gNil))))
    (sSeq (sFor (itSeq (eLst (gCons (eMul (eLst (gCons (eC (.str "0 0")) gNil)) (eC (.int 60))) (gCons (eMul (eLst (gCons (eC (.str "0 0")) gNil)) (eC (.int 61))) (gCons (eAdd (eMul (eLst (gCons (eC (.str "1 0")) gNil)) (eC (.int 41))) (eLst (gCons (eC (.str "x")) gNil))) (gCons (eAdd (eMul (eLst (gCons (eC (.str "0 0")) gNil)) (eC (.int 61))) (eLst (gCons (eC (.str "x")) gNil))) gNil)))))) (tgN 7)
    (sExpr (eLm opApp 4 (gCons (eJoin (eC (.str "\n")) (eVar 7)) gNil))))
    (sSeq (sExpr (eLm opApp 4 (gCons (eJoin (eC (.str "\n")) (eAdd (eLst (gCons (eC (.str "0 1")) gNil)) (eMul (eLst (gCons (eC (.str "0 0")) gNil)) (eC (.int 60))))) gNil)))
    (sSeq (sFor (itR1 (eC (.int 18))) (tgN 8)
    (sSeq (sSet 9 (eCall den__law_text [.b] (gCons (eCall den__law_days [.io, .b, .b] (gCons (eVar 3) (gCons (eCall den__law_pick [.io, .b] (gCons (eVar 3) (gCons (eLst (gCons (eC (.int 1)) (gCons (eC (.int 3)) (gCons (eC (.int 6)) gNil)))) gNil))) (gCons (eC (.int 12)) gNil)))) gNil)))
    (sSeq (sFor (itR1 (eCall den__law_pick [.io, .b] (gCons (eVar 3) (gCons (eLst (gCons (eC (.int 0)) (gCons (eC (.int 1)) (gCons (eC (.int 1)) (gCons (eC (.int 2)) (gCons (eC (.int 3)) gNil)))))) gNil)))) (tgN 10)
    (sSet 9 (eCall den__law_changed [.io, .b] (gCons (eVar 3) (gCons (eVar 9) gNil)))))
    (sExpr (eLm opApp 4 (gCons (eF (eVar 9)) gNil))))))
    (sIf (eNe (eComp (itSeq (eF (eVar 4))) [9] (tgN 9) (eNe (eRepr2 (eCall den__law_told [.b] (gCons (eVar 9) gNil))) (eRepr2 (eCall den__law_due [.b] (gCons (eVar 9) gNil)))) (eF (eVar 9))) (eLst gNil))
    (sRet (eC (.bl false)))
    sNil)))))))))))
    (sRet (eC (.bl true)))))
def den_law : Fn := defn 11 [] d_law
/-! what the top has written -/
def cnL : Nat → List Str
  | 3 => ["days", "stocks", "days_in", "days_out"]
  | 0 => []
  | 1 => ["row"]
  | 2 => ["day"]
  | _ => []
def caL (C_Log C_StoreError C_InvalidText C_NotLawful : Addr) : Nat → Addr
  | 3 => C_Log
  | 0 => C_StoreError
  | 1 => C_InvalidText
  | 2 => C_NotLawful
  | _ => 0
abbrev gx (K : PySem.W.Frag) (C_Log C_StoreError C_InvalidText C_NotLawful : Addr) (w : World) : Gx := ⟨K, caL C_Log C_StoreError C_InvalidText C_NotLawful, cnL, w⟩
structure Tx (K : PySem.W.Frag) (mg : Str → Option Value) (C_Log C_StoreError C_InvalidText C_NotLawful : Addr) (f__law_feed f__law_take f__law_pick f__law_text f__law_days f__law_changed f_stocks_of f_repeated f_Logx_initx f_read_number f_read_day f_Log_parse f_Logx_strx f__law_told f__law_number f__law_stock f__law_due f_law : Addr) (p_Log_parse fX_InvalidText fX_NotLawful : Addr) (fd__law_feed fd__law_take fd__law_pick fd__law_text fd__law_days fd__law_changed fd_stocks_of fd_repeated fd_Logx_initx fd_read_number fd_read_day fd_Log_parse fd_Logx_strx fd__law_told fd__law_number fd__law_stock fd__law_due fd_law : FuncData) (dv_Logx_initx_1_ : List V) (g_Logx_initx_1_ : List Value → List Value → List Value) : Prop where
  F__law_feed : FunX K "_law_feed" "_law_feed" s__law_feed f__law_feed fd__law_feed
  m__law_feed : mg "_law_feed" = some (.ref f__law_feed)
  k__law_feed : PySem.W.keepIn K (.ref f__law_feed) = true
  b__law_feed : Binds K fd__law_feed ["script", "k"] []
  F__law_take : FunX K "_law_take" "_law_take" s__law_take f__law_take fd__law_take
  m__law_take : mg "_law_take" = some (.ref f__law_take)
  k__law_take : PySem.W.keepIn K (.ref f__law_take) = true
  b__law_take : Binds K fd__law_take ["feed", "many"] []
  F__law_pick : FunX K "_law_pick" "_law_pick" s__law_pick f__law_pick fd__law_pick
  m__law_pick : mg "_law_pick" = some (.ref f__law_pick)
  k__law_pick : PySem.W.keepIn K (.ref f__law_pick) = true
  b__law_pick : Binds K fd__law_pick ["feed", "some"] []
  F__law_text : FunX K "_law_text" "_law_text" s__law_text f__law_text fd__law_text
  m__law_text : mg "_law_text" = some (.ref f__law_text)
  k__law_text : PySem.W.keepIn K (.ref f__law_text) = true
  b__law_text : Binds K fd__law_text ["days"] []
  F__law_days : FunX K "_law_days" "_law_days" s__law_days f__law_days fd__law_days
  m__law_days : mg "_law_days" = some (.ref f__law_days)
  k__law_days : PySem.W.keepIn K (.ref f__law_days) = true
  b__law_days : Binds K fd__law_days ["feed", "days", "units"] []
  F__law_changed : FunX K "_law_changed" "_law_changed" s__law_changed f__law_changed fd__law_changed
  m__law_changed : mg "_law_changed" = some (.ref f__law_changed)
  k__law_changed : PySem.W.keepIn K (.ref f__law_changed) = true
  b__law_changed : Binds K fd__law_changed ["feed", "text"] []
  F_stocks_of : FunX K "stocks_of" "stocks_of" s_stocks_of f_stocks_of fd_stocks_of
  m_stocks_of : mg "stocks_of" = some (.ref f_stocks_of)
  k_stocks_of : PySem.W.keepIn K (.ref f_stocks_of) = true
  b_stocks_of : Binds K fd_stocks_of ["days"] []
  F_repeated : FunX K "repeated" "repeated" s_repeated f_repeated fd_repeated
  m_repeated : mg "repeated" = some (.ref f_repeated)
  k_repeated : PySem.W.keepIn K (.ref f_repeated) = true
  b_repeated : Binds K fd_repeated ["days", "numbers"] []
  F_Logx_initx : FunX K "__init__" "Log.__init__" s_Logx_initx f_Logx_initx fd_Logx_initx
  b_Logx_initx : Binds K fd_Logx_initx ["self", "days"] []
  F_read_number : FunX K "read_number" "read_number" s_read_number f_read_number fd_read_number
  m_read_number : mg "read_number" = some (.ref f_read_number)
  k_read_number : PySem.W.keepIn K (.ref f_read_number) = true
  b_read_number : Binds K fd_read_number ["word"] []
  F_read_day : FunX K "read_day" "read_day" s_read_day f_read_day fd_read_day
  m_read_day : mg "read_day" = some (.ref f_read_day)
  k_read_day : PySem.W.keepIn K (.ref f_read_day) = true
  b_read_day : Binds K fd_read_day ["row"] []
  F_Log_parse : FunX K "parse" "Log.parse" s_Log_parse f_Log_parse fd_Log_parse
  b_Log_parse : Binds K fd_Log_parse ["cls", "text"] []
  cmt_Log_parse : ClX.CMet K C_Log (.type "type") "parse" p_Log_parse f_Log_parse
  cr_Log : ClX.CRead K C_Log (.type "type")
  F_Logx_strx : FunX K "__str__" "Log.__str__" s_Logx_strx f_Logx_strx fd_Logx_strx
  b_Logx_strx : Binds K fd_Logx_strx ["self"] []
  mt_Logx_strx : Meth K C_Log "__str__" f_Logx_strx
  F__law_told : FunX K "_law_told" "_law_told" s__law_told f__law_told fd__law_told
  m__law_told : mg "_law_told" = some (.ref f__law_told)
  k__law_told : PySem.W.keepIn K (.ref f__law_told) = true
  b__law_told : Binds K fd__law_told ["text"] []
  F__law_number : FunX K "_law_number" "_law_number" s__law_number f__law_number fd__law_number
  m__law_number : mg "_law_number" = some (.ref f__law_number)
  k__law_number : PySem.W.keepIn K (.ref f__law_number) = true
  b__law_number : Binds K fd__law_number ["word"] []
  F__law_stock : FunX K "_law_stock" "_law_stock" s__law_stock f__law_stock fd__law_stock
  m__law_stock : mg "_law_stock" = some (.ref f__law_stock)
  k__law_stock : PySem.W.keepIn K (.ref f__law_stock) = true
  b__law_stock : Binds K fd__law_stock ["days", "day"] []
  F__law_due : FunX K "_law_due" "_law_due" s__law_due f__law_due fd__law_due
  m__law_due : mg "_law_due" = some (.ref f__law_due)
  k__law_due : PySem.W.keepIn K (.ref f__law_due) = true
  b__law_due : Binds K fd__law_due ["text"] []
  F_law : FunX K "law" "law" s_law f_law fd_law
  m_law : mg "law" = some (.ref f_law)
  k_law : PySem.W.keepIn K (.ref f_law) = true
  b_law : Binds K fd_law ["script"] []
  cf_Log : ClsF K C_Log (cnL 3)
  mk_Log : Mk K C_Log f_Logx_initx
  mC_Log : mg "Log" = some (.ref C_Log)
  xq_StoreError : PySem.W.excIn K C_StoreError [.type "ValueError", .type "Exception", .type "BaseException", .type "object"] "ValueError.__new__" = true
  xg_StoreError : mg "StoreError" = some (.ref C_StoreError)
  xk_StoreError : PySem.W.keepIn K (.ref C_StoreError) = true
  xe_StoreError : PySem.W.subIn K (.ref C_StoreError) (.type "BaseException") = some true
  xy_StoreError : PySem.W.typeIn K (.ref C_StoreError) = some (.type "type")
  xt_StoreError_StoreError : PySem.W.exmOne K (.ref C_StoreError) (.ref C_StoreError) = some true
  xt_StoreError_InvalidText : PySem.W.exmOne K (.ref C_StoreError) (.ref C_InvalidText) = some false
  xt_StoreError_NotLawful : PySem.W.exmOne K (.ref C_StoreError) (.ref C_NotLawful) = some false
  x_InvalidText : PySem.LowX_InvalidText.LowTxt K mg C_InvalidText fX_InvalidText
  xt_InvalidText_StoreError : PySem.W.exmOne K (.ref C_InvalidText) (.ref C_StoreError) = some true
  xt_InvalidText_InvalidText : PySem.W.exmOne K (.ref C_InvalidText) (.ref C_InvalidText) = some true
  xt_InvalidText_NotLawful : PySem.W.exmOne K (.ref C_InvalidText) (.ref C_NotLawful) = some false
  x_NotLawful : PySem.LowX_NotLawful.LowTxt K mg C_NotLawful fX_NotLawful
  xt_NotLawful_StoreError : PySem.W.exmOne K (.ref C_NotLawful) (.ref C_StoreError) = some true
  xt_NotLawful_InvalidText : PySem.W.exmOne K (.ref C_NotLawful) (.ref C_InvalidText) = some false
  xt_NotLawful_NotLawful : PySem.W.exmOne K (.ref C_NotLawful) (.ref C_NotLawful) = some true
  xc_InvalidText : L2.ExcC K C_InvalidText
  kx_InvalidText_InvalidText : PySem.W.kitOne K (.ref C_InvalidText) (.ref C_InvalidText) = some true
  kx_InvalidText_NotLawful : PySem.W.kitOne K (.ref C_InvalidText) (.ref C_NotLawful) = some false
  xc_NotLawful : L2.ExcC K C_NotLawful
  kx_NotLawful_InvalidText : PySem.W.kitOne K (.ref C_NotLawful) (.ref C_InvalidText) = some false
  kx_NotLawful_NotLawful : PySem.W.kitOne K (.ref C_NotLawful) (.ref C_NotLawful) = some true
  kb_Logx_initx_1_ : KBn K fd_Logx_initx ["self", "days"] 2 [] g_Logx_initx_1_ (fun vs zs => vs ++ zs ++ dv_Logx_initx_1_)
  kd_Logx_initx_1_ : ∀ (w : World) (H : Hp) (P : Addr → Prop), Reps (gx K C_Log C_StoreError C_InvalidText C_NotLawful w) H P [] dv_Logx_initx_1_
  oc_Log : OwnC K C_Log
  ki_Log : ∀ t : Ty, PySem.W.kitOne K (.type t.nm) (.ref C_Log) = some false
  z_abs : mg "abs" = none
  z_all : mg "all" = none
  z_enumerate : mg "enumerate" = none
  z_int : mg "int" = none
  z_isinstance : mg "isinstance" = none
  z_len : mg "len" = none
  z_list : mg "list" = none
  z_max : mg "max" = none
  z_min : mg "min" = none
  z_range : mg "range" = none
  z_repr : mg "repr" = none
  z_str : mg "str" = none
  z_sum : mg "sum" = none
  z_tuple : mg "tuple" = none
  z_zip : mg "zip" = none
  gc_DIGITS : ∃ u, mg "DIGITS" = some u ∧ RelV (V.str "0123456789") u
  gc_MANY : ∃ u, mg "MANY" = some u ∧ RelV (V.int 1000000000) u
  gc_MAX_DAYS : ∃ u, mg "MAX_DAYS" = some u ∧ RelV (V.int 60) u
  gc_MAX_UNITS : ∃ u, mg "MAX_UNITS" = some u ∧ RelV (V.int 40) u
section
variable {P : Program} {w : World} {K : PySem.W.Frag} {mg : Str → Option Value} {base : Heap} {C_Log C_StoreError C_InvalidText C_NotLawful : Addr} {f__law_feed f__law_take f__law_pick f__law_text f__law_days f__law_changed f_stocks_of f_repeated f_Logx_initx f_read_number f_read_day f_Log_parse f_Logx_strx f__law_told f__law_number f__law_stock f__law_due f_law : Addr} {p_Log_parse fX_InvalidText fX_NotLawful : Addr} {fd__law_feed fd__law_take fd__law_pick fd__law_text fd__law_days fd__law_changed fd_stocks_of fd_repeated fd_Logx_initx fd_read_number fd_read_day fd_Log_parse fd_Logx_strx fd__law_told fd__law_number fd__law_stock fd__law_due fd_law : FuncData} {dv_Logx_initx_1_ : List V} {g_Logx_initx_1_ : List Value → List Value → List Value}
theorem ok__law_feed (T : Tx K mg C_Log C_StoreError C_InvalidText C_NotLawful f__law_feed f__law_take f__law_pick f__law_text f__law_days f__law_changed f_stocks_of f_repeated f_Logx_initx f_read_number f_read_day f_Log_parse f_Logx_strx f__law_told f__law_number f__law_stock f__law_due f_law p_Log_parse fX_InvalidText fX_NotLawful fd__law_feed fd__law_take fd__law_pick fd__law_text fd__law_days fd__law_changed fd_stocks_of fd_repeated fd_Logx_initx fd_read_number fd_read_day fd_Log_parse fd_Logx_strx fd__law_told fd__law_number fd__law_stock fd__law_due fd_law dv_Logx_initx_1_ g_Logx_initx_1_) : FnG P w K mg base 1 f__law_feed fd__law_feed ["script", "k"] (spV (gx K C_Log C_StoreError C_InvalidText C_NotLawful w) 2 [] den__law_feed) :=
  fn_v (k := 0) (G := gx K C_Log C_StoreError C_InvalidText C_NotLawful w) (N := N__law_feed) (ps := ["script", "k"]) T.F__law_feed sc__law_feed (by decide) [] fun cdv A outer s0 H E m =>
    (b_cons (s_set (i := 2) sc__law_feed.nd (by decide) (v_ifx (t_lt (v_var 1) (v_len rfl T.z_len (v_var 0))) (v_idx rfl (v_var 0) (v_var 1)) (v_add (v_mul v_int (v_var 1)) v_int)))
    (b_cons (s_set (i := 3) sc__law_feed.nd (by decide) (v_max2 rfl T.z_max v_int (v_sub (v_abs T.z_abs (v_var 2)) (v_pow v_int v_int))))
    (b_cons (s_set (i := 4) sc__law_feed.nd (by decide) (v_mod (v_add (v_add (v_mul (v_var 2) v_int) (v_mul v_int (v_var 1))) v_int) v_int))
    (b_one (s_ret (v_lst (va_cons (v_fz (v_var 3)) (va_cons (v_fz (v_var 4)) va_nil))))))))
theorem ok__law_take (T : Tx K mg C_Log C_StoreError C_InvalidText C_NotLawful f__law_feed f__law_take f__law_pick f__law_text f__law_days f__law_changed f_stocks_of f_repeated f_Logx_initx f_read_number f_read_day f_Log_parse f_Logx_strx f__law_told f__law_number f__law_stock f__law_due f_law p_Log_parse fX_InvalidText fX_NotLawful fd__law_feed fd__law_take fd__law_pick fd__law_text fd__law_days fd__law_changed fd_stocks_of fd_repeated fd_Logx_initx fd_read_number fd_read_day fd_Log_parse fd_Logx_strx fd__law_told fd__law_number fd__law_stock fd__law_due fd_law dv_Logx_initx_1_ g_Logx_initx_1_) : FnG P w K mg base 1 f__law_take fd__law_take ["feed", "many"] (spV (gx K C_Log C_StoreError C_InvalidText C_NotLawful w) 2 [0] den__law_take) :=
  fn_v (k := 0) (G := gx K C_Log C_StoreError C_InvalidText C_NotLawful w) (N := N__law_take) (ps := ["feed", "many"]) T.F__law_take sc__law_take (by decide) [0] fun cdv A outer s0 H E m =>
    (b_cons (s_if (t_gt (v_idx rfl (v_var 0) v_int) v_int)
    (b_cons (s_set (i := 2) sc__law_take.nd (by decide) (v_mod (v_idx rfl (v_var 0) v_int) (v_var 1)))
    (b_cons (s_asg (v_div (v_idx rfl (v_var 0) v_int) (v_var 1)) (g_sub (W := fun cls d _ H => E cls d H) (i := 0) rfl (by first | exact Or.inl rfl | exact Or.inr (Or.inl rfl) | exact Or.inr (Or.inr rfl)) (by decide) (by decide) v_int))
    (b_one (s_ret (v_mv (v_var 2))))))
    b_nil)
    (b_cons (s_asg (v_mod (v_add (v_mul (v_idx rfl (v_var 0) v_int) v_int) v_int) v_int) (g_sub (W := fun cls d _ H => E cls d H) (i := 0) rfl (by first | exact Or.inl rfl | exact Or.inr (Or.inl rfl) | exact Or.inr (Or.inr rfl)) (by decide) (by decide) v_int))
    (b_one (s_ret (v_mod (v_div (v_idx rfl (v_var 0) v_int) v_int) (v_var 1))))))
theorem ok__law_pick (T : Tx K mg C_Log C_StoreError C_InvalidText C_NotLawful f__law_feed f__law_take f__law_pick f__law_text f__law_days f__law_changed f_stocks_of f_repeated f_Logx_initx f_read_number f_read_day f_Log_parse f_Logx_strx f__law_told f__law_number f__law_stock f__law_due f_law p_Log_parse fX_InvalidText fX_NotLawful fd__law_feed fd__law_take fd__law_pick fd__law_text fd__law_days fd__law_changed fd_stocks_of fd_repeated fd_Logx_initx fd_read_number fd_read_day fd_Log_parse fd_Logx_strx fd__law_told fd__law_number fd__law_stock fd__law_due fd_law dv_Logx_initx_1_ g_Logx_initx_1_) : FnG P w K mg base 2 f__law_pick fd__law_pick ["feed", "some"] (spV (gx K C_Log C_StoreError C_InvalidText C_NotLawful w) 2 [0] den__law_pick) :=
  fn_v (k := 1) (G := gx K C_Log C_StoreError C_InvalidText C_NotLawful w) (N := N__law_pick) (ps := ["feed", "some"]) T.F__law_pick sc__law_pick (by decide) [0] fun cdv A outer s0 H E m =>
    (b_one (s_ret (v_idx rfl (v_var 1) (v_call (k := 1) ((ok__law_take (P := P) (w := w) (base := base) T).mono (by decide)) (m.rm.mono (by decide)) m.tk T.m__law_take T.k__law_take T.b__law_take (va_cons (v_var 0) (va_cons (v_len rfl T.z_len (v_var 1)) va_nil))))))
theorem ok__law_text (T : Tx K mg C_Log C_StoreError C_InvalidText C_NotLawful f__law_feed f__law_take f__law_pick f__law_text f__law_days f__law_changed f_stocks_of f_repeated f_Logx_initx f_read_number f_read_day f_Log_parse f_Logx_strx f__law_told f__law_number f__law_stock f__law_due f_law p_Log_parse fX_InvalidText fX_NotLawful fd__law_feed fd__law_take fd__law_pick fd__law_text fd__law_days fd__law_changed fd_stocks_of fd_repeated fd_Logx_initx fd_read_number fd_read_day fd_Log_parse fd_Logx_strx fd__law_told fd__law_number fd__law_stock fd__law_due fd_law dv_Logx_initx_1_ g_Logx_initx_1_) : FnG P w K mg base 1 f__law_text fd__law_text ["days"] (spV (gx K C_Log C_StoreError C_InvalidText C_NotLawful w) 1 [] den__law_text) :=
  fn_v (k := 0) (G := gx K C_Log C_StoreError C_InvalidText C_NotLawful w) (N := N__law_text) (ps := ["days"]) T.F__law_text sc__law_text (by decide) [] fun cdv A outer s0 H E m =>
    (b_one (s_ret (v_join v_str (v_comp (own := [("arrived", 1), ("left", 2)]) rfl sc__law_text.nd (i_seq (v_var 0) rfl) (by show BlkOk N__law_text (defScope s__law_text) _ _; exact ⟨rfl, by decide +kernel, by decide +kernel, by decide +kernel, by decide +kernel⟩) (fun _ _ _ _ _ => (g_tup rfl (gs_cons (g_name 1 sc__law_text.nd (by decide)) (gs_cons (g_name 2 sc__law_text.nd (by decide)) gs_nil)) (len_cons (len_cons len_nil)))) (fun _ _ _ _ _ => t_yes) (fun _ _ _ _ _ => (v_add (v_add (v_strI T.z_str (v_var 1)) v_str) (v_strI T.z_str (v_var 2)))) (by decide) (by decide)))))
theorem ok__law_days (T : Tx K mg C_Log C_StoreError C_InvalidText C_NotLawful f__law_feed f__law_take f__law_pick f__law_text f__law_days f__law_changed f_stocks_of f_repeated f_Logx_initx f_read_number f_read_day f_Log_parse f_Logx_strx f__law_told f__law_number f__law_stock f__law_due f_law p_Log_parse fX_InvalidText fX_NotLawful fd__law_feed fd__law_take fd__law_pick fd__law_text fd__law_days fd__law_changed fd_stocks_of fd_repeated fd_Logx_initx fd_read_number fd_read_day fd_Log_parse fd_Logx_strx fd__law_told fd__law_number fd__law_stock fd__law_due fd_law dv_Logx_initx_1_ g_Logx_initx_1_) : FnG P w K mg base 3 f__law_days fd__law_days ["feed", "days", "units"] (spV (gx K C_Log C_StoreError C_InvalidText C_NotLawful w) 3 [0] den__law_days) :=
  fn_v (k := 2) (G := gx K C_Log C_StoreError C_InvalidText C_NotLawful w) (N := N__law_days) (ps := ["feed", "days", "units"]) T.F__law_days sc__law_days (by decide) [0] fun cdv A outer s0 H E m =>
    (b_cons (s_par3 (i := 3) (j := 4) (l := 5) rfl sc__law_days.nd (by decide) (by decide) (by decide) (by decide) (va_cons (v_lst va_nil) (va_cons v_int (va_cons v_int va_nil))))
    (b_cons (s_set (i := 6) sc__law_days.nd (by decide) (v_call (k := 2) ((ok__law_pick (P := P) (w := w) (base := base) T).mono (by decide)) (m.rm.mono (by decide)) m.tk T.m__law_pick T.k__law_pick T.b__law_pick (va_cons (v_var 0) (va_cons (v_lst (va_cons v_int (va_cons v_int (va_cons v_int (va_cons v_int va_nil))))) va_nil))))
    (b_cons (s_for m.po rfl (i_r1 T.z_range (v_var 1)) (g_name 7 sc__law_days.nd (by decide))
    (b_cons (s_set (i := 8) sc__law_days.nd (by decide) (v_min2 rfl T.z_min (v_sub (v_var 2) (v_var 5)) (v_call (k := 2) ((ok__law_pick (P := P) (w := w) (base := base) T).mono (by decide)) (m.rm.mono (by decide)) m.tk T.m__law_pick T.k__law_pick T.b__law_pick (va_cons (v_var 0) (va_cons (v_lst (va_cons v_int (va_cons v_int (va_cons v_int (va_cons (v_call (k := 1) ((ok__law_take (P := P) (w := w) (base := base) T).mono (by decide)) (m.rm.mono (by decide)) m.tk T.m__law_take T.k__law_take T.b__law_take (va_cons (v_var 0) (va_cons (v_add (v_var 6) v_int) va_nil))) va_nil))))) va_nil)))))
    (b_cons (s_par (i := 5) (j := 4) rfl sc__law_days.nd (by decide) (by decide) (va_cons (v_add (v_var 5) (v_var 8)) (va_cons (v_add (v_var 4) (v_var 8)) va_nil)))
    (b_cons (s_set (i := 9) sc__law_days.nd (by decide) (v_min2 rfl T.z_min (v_var 4) (v_call (k := 2) ((ok__law_pick (P := P) (w := w) (base := base) T).mono (by decide)) (m.rm.mono (by decide)) m.tk T.m__law_pick T.k__law_pick T.b__law_pick (va_cons (v_var 0) (va_cons (v_lst (va_cons v_int (va_cons v_int (va_cons (v_fz (v_var 4)) (va_cons (v_call (k := 1) ((ok__law_take (P := P) (w := w) (base := base) T).mono (by decide)) (m.rm.mono (by decide)) m.tk T.m__law_take T.k__law_take T.b__law_take (va_cons (v_var 0) (va_cons (v_add (v_var 4) v_int) va_nil))) va_nil))))) va_nil)))))
    (b_cons (s_set (i := 4) sc__law_days.nd (by decide) (v_sub (v_var 4) (v_var 9)))
    (b_one (s_expr (v_lm (i := 3) lm_app PySem.F.slot_list_append PySem.F.type_list_append mt_append rfl (by first | exact Or.inl rfl | exact Or.inr (Or.inl rfl) | exact Or.inr (Or.inr rfl)) (by decide) (by decide) (va_cons (v_tup (va_cons (v_fz (v_var 8)) (va_cons (v_fz (v_var 9)) va_nil))) va_nil)))))))))
    (b_one (s_ret (v_mv (v_var 3)))))))
theorem ok__law_changed (T : Tx K mg C_Log C_StoreError C_InvalidText C_NotLawful f__law_feed f__law_take f__law_pick f__law_text f__law_days f__law_changed f_stocks_of f_repeated f_Logx_initx f_read_number f_read_day f_Log_parse f_Logx_strx f__law_told f__law_number f__law_stock f__law_due f_law p_Log_parse fX_InvalidText fX_NotLawful fd__law_feed fd__law_take fd__law_pick fd__law_text fd__law_days fd__law_changed fd_stocks_of fd_repeated fd_Logx_initx fd_read_number fd_read_day fd_Log_parse fd_Logx_strx fd__law_told fd__law_number fd__law_stock fd__law_due fd_law dv_Logx_initx_1_ g_Logx_initx_1_) : FnG P w K mg base 3 f__law_changed fd__law_changed ["feed", "text"] (spV (gx K C_Log C_StoreError C_InvalidText C_NotLawful w) 2 [0] den__law_changed) :=
  fn_v (k := 2) (G := gx K C_Log C_StoreError C_InvalidText C_NotLawful w) (N := N__law_changed) (ps := ["feed", "text"]) T.F__law_changed sc__law_changed (by decide) [0] fun cdv A outer s0 H E m =>
    (b_cons (s_set (i := 2) sc__law_changed.nd (by decide) (v_call (k := 2) ((ok__law_pick (P := P) (w := w) (base := base) T).mono (by decide)) (m.rm.mono (by decide)) m.tk T.m__law_pick T.k__law_pick T.b__law_pick (va_cons (v_var 0) (va_cons (v_lst (va_cons v_str (va_cons v_str (va_cons v_str va_nil)))) va_nil))))
    (b_cons (s_set (i := 3) sc__law_changed.nd (by decide) (v_split (v_var 1) (v_var 2)))
    (b_cons (s_par (i := 4) (j := 5) rfl sc__law_changed.nd (by decide) (by decide) (va_cons (v_call (k := 1) ((ok__law_take (P := P) (w := w) (base := base) T).mono (by decide)) (m.rm.mono (by decide)) m.tk T.m__law_take T.k__law_take T.b__law_take (va_cons (v_var 0) (va_cons (v_len rfl T.z_len (v_var 3)) va_nil))) (va_cons (v_call (k := 1) ((ok__law_take (P := P) (w := w) (base := base) T).mono (by decide)) (m.rm.mono (by decide)) m.tk T.m__law_take T.k__law_take T.b__law_take (va_cons (v_var 0) (va_cons (v_len rfl T.z_len (v_var 3)) va_nil))) va_nil)))
    (b_cons (s_set (i := 6) sc__law_changed.nd (by decide) (v_call (k := 1) ((ok__law_take (P := P) (w := w) (base := base) T).mono (by decide)) (m.rm.mono (by decide)) m.tk T.m__law_take T.k__law_take T.b__law_take (va_cons (v_var 0) (va_cons v_int va_nil))))
    (b_cons (s_set (i := 7) sc__law_changed.nd (by decide) (v_lst (va_cons v_str (va_cons v_str (va_cons v_str (va_cons v_str (va_cons v_str (va_cons v_str (va_cons v_str (va_cons v_str (va_cons v_str (va_cons v_str (va_cons v_str (va_cons v_str (va_cons v_str (va_cons v_str (va_cons (v_mulS v_str v_int) va_nil)))))))))))))))))
    (b_cons (s_if (t_eq m.rm.r (v_var 6) v_int)
    (b_one (s_expr (v_lm (i := 3) lm_popAt PySem.F.slot_list_pop PySem.F.type_list_pop mt_popAt rfl (by first | exact Or.inl rfl | exact Or.inr (Or.inl rfl) | exact Or.inr (Or.inr rfl)) (by decide) (by decide) (va_cons (v_fz (v_var 4)) va_nil))))
    (b_one (s_if (t_eq m.rm.r (v_var 6) v_int)
    (b_one (s_expr (v_lm (i := 3) lm_ins PySem.F.slot_list_insert PySem.F.type_list_insert mtIns rfl (by first | exact Or.inl rfl | exact Or.inr (Or.inl rfl) | exact Or.inr (Or.inr rfl)) (by decide) (by decide) (va_cons (v_fz (v_var 5)) (va_cons (v_idx rfl (v_var 3) (v_var 4)) va_nil)))))
    (b_one (s_if (t_eq m.rm.r (v_var 6) v_int)
    (b_one (s_asg (v_tup (va_cons (v_idx rfl (v_var 3) (v_var 5)) (va_cons (v_idx rfl (v_var 3) (v_var 4)) va_nil))) (g_tup rfl (gs_cons (g_sub (W := fun cls d _ H => E cls d H) (i := 3) rfl (by first | exact Or.inl rfl | exact Or.inr (Or.inl rfl) | exact Or.inr (Or.inr rfl)) (by decide) (by decide) (v_var 4)) (gs_cons (g_sub (W := fun cls d _ H => E cls d H) (i := 3) rfl (by first | exact Or.inl rfl | exact Or.inr (Or.inl rfl) | exact Or.inr (Or.inr rfl)) (by decide) (by decide) (v_var 5)) gs_nil)) (len_cons (len_cons len_nil)))))
    (b_one (s_if (t_eq m.rm.r (v_var 6) v_int)
    (b_one (s_asg (v_call (k := 2) ((ok__law_pick (P := P) (w := w) (base := base) T).mono (by decide)) (m.rm.mono (by decide)) m.tk T.m__law_pick T.k__law_pick T.b__law_pick (va_cons (v_var 0) (va_cons (v_var 7) va_nil))) (g_sub (W := fun cls d _ H => E cls d H) (i := 3) rfl (by first | exact Or.inl rfl | exact Or.inr (Or.inl rfl) | exact Or.inr (Or.inr rfl)) (by decide) (by decide) (v_var 4))))
    (b_one (s_if (t_eq m.rm.r (v_var 6) v_int)
    (b_one (s_expr (v_lm (i := 3) lm_ins PySem.F.slot_list_insert PySem.F.type_list_insert mtIns rfl (by first | exact Or.inl rfl | exact Or.inr (Or.inl rfl) | exact Or.inr (Or.inr rfl)) (by decide) (by decide) (va_cons (v_fz (v_var 4)) (va_cons (v_call (k := 2) ((ok__law_pick (P := P) (w := w) (base := base) T).mono (by decide)) (m.rm.mono (by decide)) m.tk T.m__law_pick T.k__law_pick T.b__law_pick (va_cons (v_var 0) (va_cons (v_var 7) va_nil))) va_nil)))))
    (b_cons (s_set (i := 8) sc__law_changed.nd (by decide) (v_call (k := 1) ((ok__law_take (P := P) (w := w) (base := base) T).mono (by decide)) (m.rm.mono (by decide)) m.tk T.m__law_take T.k__law_take T.b__law_take (va_cons (v_var 0) (va_cons (v_add (v_len rfl T.z_len (v_var 1)) v_int) va_nil))))
    (b_one (s_ret (v_add (v_add (v_sl (v_var 1) vo_none (vo_some (v_var 8))) (v_call (k := 2) ((ok__law_pick (P := P) (w := w) (base := base) T).mono (by decide)) (m.rm.mono (by decide)) m.tk T.m__law_pick T.k__law_pick T.b__law_pick (va_cons (v_var 0) (va_cons v_str va_nil)))) (v_sl (v_var 1) (vo_some (v_add (v_var 8) (v_call (k := 1) ((ok__law_take (P := P) (w := w) (base := base) T).mono (by decide)) (m.rm.mono (by decide)) m.tk T.m__law_take T.k__law_take T.b__law_take (va_cons (v_var 0) (va_cons v_int va_nil))))) vo_none))))))))))))))
    (b_one (s_ret (v_join (v_var 2) (v_var 3))))))))))
theorem ok_stocks_of (T : Tx K mg C_Log C_StoreError C_InvalidText C_NotLawful f__law_feed f__law_take f__law_pick f__law_text f__law_days f__law_changed f_stocks_of f_repeated f_Logx_initx f_read_number f_read_day f_Log_parse f_Logx_strx f__law_told f__law_number f__law_stock f__law_due f_law p_Log_parse fX_InvalidText fX_NotLawful fd__law_feed fd__law_take fd__law_pick fd__law_text fd__law_days fd__law_changed fd_stocks_of fd_repeated fd_Logx_initx fd_read_number fd_read_day fd_Log_parse fd_Logx_strx fd__law_told fd__law_number fd__law_stock fd__law_due fd_law dv_Logx_initx_1_ g_Logx_initx_1_) : FnG P w K mg base 1 f_stocks_of fd_stocks_of ["days"] (spV (gx K C_Log C_StoreError C_InvalidText C_NotLawful w) 1 [] den_stocks_of) :=
  fn_v (k := 0) (G := gx K C_Log C_StoreError C_InvalidText C_NotLawful w) (N := N_stocks_of) (ps := ["days"]) T.F_stocks_of sc_stocks_of (by decide) [] fun cdv A outer s0 H E m =>
    (b_cons (s_set (i := 1) sc_stocks_of.nd (by decide) (v_lst va_nil))
    (b_cons (s_for m.po rfl (i_enA T.z_enumerate (v_var 0)) (g_tup rfl (gs_cons (g_name 2 sc_stocks_of.nd (by decide)) (gs_cons (g_tup rfl (gs_cons (g_name 3 sc_stocks_of.nd (by decide)) (gs_cons (g_name 4 sc_stocks_of.nd (by decide)) gs_nil)) (len_cons (len_cons len_nil))) gs_nil)) (len_cons (len_cons len_nil)))
    (b_cons (s_expr (v_lm (i := 1) lm_app PySem.F.slot_list_append PySem.F.type_list_append mt_append rfl (by first | exact Or.inl rfl | exact Or.inr (Or.inl rfl) | exact Or.inr (Or.inr rfl)) (by decide) (by decide) (va_cons (v_sub (v_add (v_ifx (t_ne m.rm.r (v_var 1) (v_lst va_nil)) (v_idx rfl (v_var 1) (v_neg v_int)) v_int) (v_var 3)) (v_var 4)) va_nil)))
    (b_one (s_if (t_lt (v_idx rfl (v_var 1) (v_neg v_int)) v_int)
    (b_one (s_raise_NotLawful (c := 2) rfl T.x_NotLawful m.rm.r m.tk rfl rfl (v_fz (v_var 2))))
    b_nil))))
    (b_one (s_ret (v_mv (v_var 1))))))
theorem ok_repeated (T : Tx K mg C_Log C_StoreError C_InvalidText C_NotLawful f__law_feed f__law_take f__law_pick f__law_text f__law_days f__law_changed f_stocks_of f_repeated f_Logx_initx f_read_number f_read_day f_Log_parse f_Logx_strx f__law_told f__law_number f__law_stock f__law_due f_law p_Log_parse fX_InvalidText fX_NotLawful fd__law_feed fd__law_take fd__law_pick fd__law_text fd__law_days fd__law_changed fd_stocks_of fd_repeated fd_Logx_initx fd_read_number fd_read_day fd_Log_parse fd_Logx_strx fd__law_told fd__law_number fd__law_stock fd__law_due fd_law dv_Logx_initx_1_ g_Logx_initx_1_) : FnG P w K mg base 1 f_repeated fd_repeated ["days", "numbers"] (spV (gx K C_Log C_StoreError C_InvalidText C_NotLawful w) 2 [] den_repeated) :=
  fn_v (k := 0) (G := gx K C_Log C_StoreError C_InvalidText C_NotLawful w) (N := N_repeated) (ps := ["days", "numbers"]) T.F_repeated sc_repeated (by decide) [] fun cdv A outer s0 H E m =>
    (b_one (s_ret (v_tuple T.z_tuple (v_compR (own := [("day", 2), ("number", 3), ("turn", 4)]) (vs1 := [4]) rfl sc_repeated.nd (i_zip T.z_zip (v_var 0) (v_var 1)) (by show BlkOk N_repeated (defScope s_repeated) _ _; exact ⟨rfl, by decide +kernel, by decide +kernel, by decide +kernel, by decide +kernel⟩) (by decide) (fun _ _ _ _ _ => (g_tup rfl (gs_cons (g_name 2 sc_repeated.nd (by decide)) (gs_cons (g_name 3 sc_repeated.nd (by decide)) gs_nil)) (len_cons (len_cons len_nil)))) (fun _ _ _ _ _ => pi_range1 rfl T.z_range (pa_cons (v_var 3) pa_nil rfl) rfl) (fun _ _ _ _ _ => (g_name 4 sc_repeated.nd (by decide))) (fun _ _ _ _ _ => (v_fz (v_var 2))) (by decide) (by decide) (by decide)))))
theorem ok_Logx_initx (T : Tx K mg C_Log C_StoreError C_InvalidText C_NotLawful f__law_feed f__law_take f__law_pick f__law_text f__law_days f__law_changed f_stocks_of f_repeated f_Logx_initx f_read_number f_read_day f_Log_parse f_Logx_strx f__law_told f__law_number f__law_stock f__law_due f_law p_Log_parse fX_InvalidText fX_NotLawful fd__law_feed fd__law_take fd__law_pick fd__law_text fd__law_days fd__law_changed fd_stocks_of fd_repeated fd_Logx_initx fd_read_number fd_read_day fd_Log_parse fd_Logx_strx fd__law_told fd__law_number fd__law_stock fd__law_due fd_law dv_Logx_initx_1_ g_Logx_initx_1_) : FnG P w K mg base 2 f_Logx_initx fd_Logx_initx ["self", "days"] (spV (gx K C_Log C_StoreError C_InvalidText C_NotLawful w) 2 [0] den_Logx_initx) :=
  fn_v (k := 1) (G := gx K C_Log C_StoreError C_InvalidText C_NotLawful w) (N := N_Logx_initx) (ps := ["self", "days"]) T.F_Logx_initx sc_Logx_initx (by decide) [0] fun cdv A outer s0 H E m =>
    (b_cons (s_fst (c := 3) (j := 0) (i := 0) T.cf_Log rfl (v_fz (v_tuple T.z_tuple (v_comp (own := [("day", 4)]) rfl sc_Logx_initx.nd (i_seq (v_var 1) rfl) (by show BlkOk N_Logx_initx (defScope s_Logx_initx) _ _; exact ⟨rfl, by decide +kernel, by decide +kernel, by decide +kernel, by decide +kernel⟩) (fun _ _ _ _ _ => (g_name 4 sc_Logx_initx.nd (by decide))) (fun _ _ _ _ _ => t_yes) (fun _ _ _ _ _ => (v_tuple T.z_tuple (v_var 4))) (by decide) (by decide)))) rfl (by first | exact Or.inl rfl | exact Or.inr (Or.inl rfl) | exact Or.inr (Or.inr rfl)) (by decide) (by decide))
    (b_cons (s_fst (c := 3) (j := 1) (i := 0) T.cf_Log rfl (v_fz (v_call (k := 1) ((ok_stocks_of (P := P) (w := w) (base := base) T).mono (by decide)) (m.rm.mono (by decide)) m.tk T.m_stocks_of T.k_stocks_of T.b_stocks_of (va_cons (v_fld (c := 3) (j := 0) T.cf_Log rfl (v_var 0)) va_nil))) rfl (by first | exact Or.inl rfl | exact Or.inr (Or.inl rfl) | exact Or.inr (Or.inr rfl)) (by decide) (by decide))
    (b_cons (s_setLc (i := 2) (own := [("arrived", 5), ("left", 6)]) rfl sc_Logx_initx.nd rfl rfl (by decide) rfl (i_seq (v_fld (c := 3) (j := 0) T.cf_Log rfl (v_var 0)) rfl) (by show BlkOk N_Logx_initx (defScope s_Logx_initx) _ _; exact ⟨rfl, by decide +kernel, by decide +kernel, by decide +kernel, by decide +kernel⟩) (fun _ _ _ _ _ => (g_tup rfl (gs_cons (g_name 5 sc_Logx_initx.nd (by decide)) (gs_cons (g_name 6 sc_Logx_initx.nd (by decide)) gs_nil)) (len_cons (len_cons len_nil)))) (fun _ _ _ _ _ => t_yes) (fun _ _ _ _ _ => (v_fz (v_var 6))) (by decide) (by decide))
    (b_cons (s_augSub (i := 2) ip_add rfl (by first | exact Or.inl rfl | exact Or.inr (Or.inl rfl) | exact Or.inr (Or.inr rfl)) (by decide) (by decide) (v_neg v_int) (v_idx rfl (v_fld (c := 3) (j := 1) T.cf_Log rfl (v_var 0)) (v_neg v_int)))
    (b_cons (s_set (i := 3) sc_Logx_initx.nd (by decide) (v_lstR1 rfl T.z_list T.z_range (v_len rfl T.z_len (v_fld (c := 3) (j := 0) T.cf_Log rfl (v_var 0)))))
    (b_cons (s_fst (c := 3) (j := 2) (i := 0) T.cf_Log rfl (v_fz (v_call (k := 1) ((ok_repeated (P := P) (w := w) (base := base) T).mono (by decide)) (m.rm.mono (by decide)) m.tk T.m_repeated T.k_repeated T.b_repeated (va_cons (v_var 3) (va_cons (v_comp (own := [("arrived", 5), ("left", 6)]) rfl sc_Logx_initx.nd (i_seq (v_fld (c := 3) (j := 0) T.cf_Log rfl (v_var 0)) rfl) (by show BlkOk N_Logx_initx (defScope s_Logx_initx) _ _; exact ⟨rfl, by decide +kernel, by decide +kernel, by decide +kernel, by decide +kernel⟩) (fun _ _ _ _ _ => (g_tup rfl (gs_cons (g_name 5 sc_Logx_initx.nd (by decide)) (gs_cons (g_name 6 sc_Logx_initx.nd (by decide)) gs_nil)) (len_cons (len_cons len_nil)))) (fun _ _ _ _ _ => t_yes) (fun _ _ _ _ _ => (v_fz (v_var 5))) (by decide) (by decide)) va_nil)))) rfl (by first | exact Or.inl rfl | exact Or.inr (Or.inl rfl) | exact Or.inr (Or.inr rfl)) (by decide) (by decide))
    (b_one (s_fst (c := 3) (j := 3) (i := 0) T.cf_Log rfl (v_fz (v_call (k := 1) ((ok_repeated (P := P) (w := w) (base := base) T).mono (by decide)) (m.rm.mono (by decide)) m.tk T.m_repeated T.k_repeated T.b_repeated (va_cons (v_var 3) (va_cons (v_var 2) va_nil)))) rfl (by first | exact Or.inl rfl | exact Or.inr (Or.inl rfl) | exact Or.inr (Or.inr rfl)) (by decide) (by decide)))))))))
theorem ok_read_number (T : Tx K mg C_Log C_StoreError C_InvalidText C_NotLawful f__law_feed f__law_take f__law_pick f__law_text f__law_days f__law_changed f_stocks_of f_repeated f_Logx_initx f_read_number f_read_day f_Log_parse f_Logx_strx f__law_told f__law_number f__law_stock f__law_due f_law p_Log_parse fX_InvalidText fX_NotLawful fd__law_feed fd__law_take fd__law_pick fd__law_text fd__law_days fd__law_changed fd_stocks_of fd_repeated fd_Logx_initx fd_read_number fd_read_day fd_Log_parse fd_Logx_strx fd__law_told fd__law_number fd__law_stock fd__law_due fd_law dv_Logx_initx_1_ g_Logx_initx_1_) : FnG P w K mg base 1 f_read_number fd_read_number ["word"] (spV (gx K C_Log C_StoreError C_InvalidText C_NotLawful w) 1 [] den_read_number) :=
  fn_v (k := 0) (G := gx K C_Log C_StoreError C_InvalidText C_NotLawful w) (N := N_read_number) (ps := ["word"]) T.F_read_number sc_read_number (by decide) [] fun cdv A outer s0 H E m =>
    (b_cons (s_if (PW.pt (t_or (t_eq m.rm.r (v_var 0) v_str) (t_or (t_not (t_val (v_all rfl T.z_all (v_comp (own := [("digit", 1)]) rfl sc_read_number.nd (i_txt (v_var 0)) (by show BlkOk N_read_number (defScope s_read_number) _ _; exact ⟨rfl, by decide +kernel, by decide +kernel, by decide +kernel, by decide +kernel⟩) (fun _ _ _ _ _ => (g_name 1 sc_read_number.nd (by decide))) (fun _ _ _ _ _ => t_yes) (fun _ _ _ _ _ => (v_inT (v_var 1) (v_gS T.gc_DIGITS))) (by decide) (by decide))))) (t_or1 (PW.pt (t_and (t_eq m.rm.r (v_ixS (v_var 0) v_int) v_str) (t_and1 (t_gt (v_len rfl T.z_len (v_var 0)) v_int))))))))
    (b_one (s_ret v_non))
    b_nil)
    (b_one (s_ret (v_mv (v_ifx (t_gt (v_len rfl T.z_len (v_var 0)) v_int) (v_gI T.gc_MANY) (v_intT T.z_int (v_var 0)))))))
theorem ok_read_day (T : Tx K mg C_Log C_StoreError C_InvalidText C_NotLawful f__law_feed f__law_take f__law_pick f__law_text f__law_days f__law_changed f_stocks_of f_repeated f_Logx_initx f_read_number f_read_day f_Log_parse f_Logx_strx f__law_told f__law_number f__law_stock f__law_due f_law p_Log_parse fX_InvalidText fX_NotLawful fd__law_feed fd__law_take fd__law_pick fd__law_text fd__law_days fd__law_changed fd_stocks_of fd_repeated fd_Logx_initx fd_read_number fd_read_day fd_Log_parse fd_Logx_strx fd__law_told fd__law_number fd__law_stock fd__law_due fd_law dv_Logx_initx_1_ g_Logx_initx_1_) : FnG P w K mg base 2 f_read_day fd_read_day ["row"] (spV (gx K C_Log C_StoreError C_InvalidText C_NotLawful w) 1 [] den_read_day) :=
  fn_v (k := 1) (G := gx K C_Log C_StoreError C_InvalidText C_NotLawful w) (N := N_read_day) (ps := ["row"]) T.F_read_day sc_read_day (by decide) [] fun cdv A outer s0 H E m =>
    (b_cons (s_setLc (i := 1) (own := [("word", 2)]) rfl sc_read_day.nd rfl rfl (by decide) rfl (i_seq (v_split (v_var 0) v_str) rfl) (by show BlkOk N_read_day (defScope s_read_day) _ _; exact ⟨rfl, by decide +kernel, by decide +kernel, by decide +kernel, by decide +kernel⟩) (fun _ _ _ _ _ => (g_name 2 sc_read_day.nd (by decide))) (fun _ _ _ _ _ => t_yes) (fun _ _ _ _ _ => (v_call (k := 1) ((ok_read_number (P := P) (w := w) (base := base) T).mono (by decide)) (m.rm.mono (by decide)) takesW0 T.m_read_number T.k_read_number T.b_read_number (va_cons (v_var 2) va_nil))) (by decide) (by decide))
    (b_one (s_ret (v_ifx (PW.pt (t_or (t_ne m.rm.r (v_len rfl T.z_len (v_var 1)) v_int) (t_or1 (t_inE m.rm.r v_non (v_var 1))))) v_non (v_tuple T.z_tuple (v_var 1))))))
theorem ok_Log_parse (T : Tx K mg C_Log C_StoreError C_InvalidText C_NotLawful f__law_feed f__law_take f__law_pick f__law_text f__law_days f__law_changed f_stocks_of f_repeated f_Logx_initx f_read_number f_read_day f_Log_parse f_Logx_strx f__law_told f__law_number f__law_stock f__law_due f_law p_Log_parse fX_InvalidText fX_NotLawful fd__law_feed fd__law_take fd__law_pick fd__law_text fd__law_days fd__law_changed fd_stocks_of fd_repeated fd_Logx_initx fd_read_number fd_read_day fd_Log_parse fd_Logx_strx fd__law_told fd__law_number fd__law_stock fd__law_due fd_law dv_Logx_initx_1_ g_Logx_initx_1_) : FnG P w K mg base 4 f_Log_parse fd_Log_parse ["cls", "text"] (spV (gx K C_Log C_StoreError C_InvalidText C_NotLawful w) 2 [] den_Log_parse) :=
  fn_v (k := 3) (G := gx K C_Log C_StoreError C_InvalidText C_NotLawful w) (N := N_Log_parse) (ps := ["cls", "text"]) T.F_Log_parse sc_Log_parse (by decide) [] fun cdv A outer s0 H E m =>
    (b_cons (s_par (i := 2) (j := 3) rfl sc_Log_parse.nd (by decide) (by decide) (va_cons (v_lst va_nil) (va_cons v_int va_nil)))
    (b_cons (s_for m.po rfl (i_enA T.z_enumerate (v_split (v_var 1) v_str)) (g_tup rfl (gs_cons (g_name 4 sc_Log_parse.nd (by decide)) (gs_cons (g_name 5 sc_Log_parse.nd (by decide)) gs_nil)) (len_cons (len_cons len_nil)))
    (b_cons (s_set (i := 6) sc_Log_parse.nd (by decide) (v_call (k := 2) ((ok_read_day (P := P) (w := w) (base := base) T).mono (by decide)) (m.rm.mono (by decide)) m.tk T.m_read_day T.k_read_day T.b_read_day (va_cons (v_var 5) va_nil)))
    (b_cons (s_if (PW.pt (t_or (t_isN (v_var 6) v_non) (t_or (t_eq m.rm.r (v_var 4) (v_gI T.gc_MAX_DAYS)) (t_or1 (t_gt (v_add (v_var 3) (v_idx rfl (v_var 6) v_int)) (v_gI T.gc_MAX_UNITS))))))
    (b_one (s_raise_InvalidText (c := 1) rfl T.x_InvalidText m.rm.r m.tk rfl rfl (v_fz (v_var 4))))
    b_nil)
    (b_cons (s_aug (i := 3) sc_Log_parse.nd (by decide) iop_add op2_addI (v_idx rfl (v_var 6) v_int))
    (b_one (s_expr (v_lm (i := 2) lm_app PySem.F.slot_list_append PySem.F.type_list_append mt_append rfl (by first | exact Or.inl rfl | exact Or.inr (Or.inl rfl) | exact Or.inr (Or.inr rfl)) (by decide) (by decide) (va_cons (v_fz (v_var 6)) va_nil))))))))
    (b_one (s_ret (v_makeL (i := 0) (c := 3) (k := 2) (j := 1) (ks := []) rfl T.mk_Log ((ok_Logx_initx (P := P) (w := w) (base := base) T).mono (by decide)) (m.rm.mono (by decide)) m.tk rfl (by first | exact Or.inl rfl | exact Or.inr (Or.inl rfl) | exact Or.inr (Or.inr rfl)) T.kb_Logx_initx_1_ (fun _ _ _ => by simp) (T.kd_Logx_initx_1_ w) (va_cons (v_var 2) va_nil) vk_nil (gl_cons gl_nil) gl_nil)))))
theorem ok_Logx_strx (T : Tx K mg C_Log C_StoreError C_InvalidText C_NotLawful f__law_feed f__law_take f__law_pick f__law_text f__law_days f__law_changed f_stocks_of f_repeated f_Logx_initx f_read_number f_read_day f_Log_parse f_Logx_strx f__law_told f__law_number f__law_stock f__law_due f_law p_Log_parse fX_InvalidText fX_NotLawful fd__law_feed fd__law_take fd__law_pick fd__law_text fd__law_days fd__law_changed fd_stocks_of fd_repeated fd_Logx_initx fd_read_number fd_read_day fd_Log_parse fd_Logx_strx fd__law_told fd__law_number fd__law_stock fd__law_due fd_law dv_Logx_initx_1_ g_Logx_initx_1_) : FnG P w K mg base 1 f_Logx_strx fd_Logx_strx ["self"] (spV (gx K C_Log C_StoreError C_InvalidText C_NotLawful w) 1 [] den_Logx_strx) :=
  fn_v (k := 0) (G := gx K C_Log C_StoreError C_InvalidText C_NotLawful w) (N := N_Logx_strx) (ps := ["self"]) T.F_Logx_strx sc_Logx_strx (by decide) [] fun cdv A outer s0 H E m =>
    (b_one (s_ret (v_join v_str (v_comp (own := [("arrived", 1), ("left", 2)]) rfl sc_Logx_strx.nd (i_seq (v_fld (c := 3) (j := 0) T.cf_Log rfl (v_var 0)) rfl) (by show BlkOk N_Logx_strx (defScope s_Logx_strx) _ _; exact ⟨rfl, by decide +kernel, by decide +kernel, by decide +kernel, by decide +kernel⟩) (fun _ _ _ _ _ => (g_tup rfl (gs_cons (g_name 1 sc_Logx_strx.nd (by decide)) (gs_cons (g_name 2 sc_Logx_strx.nd (by decide)) gs_nil)) (len_cons (len_cons len_nil)))) (fun _ _ _ _ _ => t_yes) (fun _ _ _ _ _ => (v_add (v_add (v_strI T.z_str (v_var 1)) v_str) (v_strI T.z_str (v_var 2)))) (by decide) (by decide)))))
theorem ok__law_told (T : Tx K mg C_Log C_StoreError C_InvalidText C_NotLawful f__law_feed f__law_take f__law_pick f__law_text f__law_days f__law_changed f_stocks_of f_repeated f_Logx_initx f_read_number f_read_day f_Log_parse f_Logx_strx f__law_told f__law_number f__law_stock f__law_due f_law p_Log_parse fX_InvalidText fX_NotLawful fd__law_feed fd__law_take fd__law_pick fd__law_text fd__law_days fd__law_changed fd_stocks_of fd_repeated fd_Logx_initx fd_read_number fd_read_day fd_Log_parse fd_Logx_strx fd__law_told fd__law_number fd__law_stock fd__law_due fd_law dv_Logx_initx_1_ g_Logx_initx_1_) : FnG P w K mg base 5 f__law_told fd__law_told ["text"] (spV (gx K C_Log C_StoreError C_InvalidText C_NotLawful w) 1 [] den__law_told) :=
  fn_v (k := 4) (G := gx K C_Log C_StoreError C_InvalidText C_NotLawful w) (N := N__law_told) (ps := ["text"]) T.F__law_told sc__law_told (by decide) [] fun cdv A outer s0 H E m =>
    (b_cons (s_asg (v_tup (va_cons v_non (va_cons v_non va_nil))) (g_tup rfl (gs_cons (g_name 1 sc__law_told.nd (by decide)) (gs_cons (g_name 2 sc__law_told.nd (by decide)) gs_nil)) (len_cons (len_cons len_nil))))
    (b_cons (s_tryK (c := 0) (j := 3) (y := 1) m.stk m.frm rfl sc__law_told.nd m.tk (fun W' pn xe tk po => (fun m =>
    (b_one (s_set (i := 2) sc__law_told.nd (by decide) (v_cm (c := 3) (k := 4) rfl T.cr_Log T.cmt_Log_parse ((ok_Log_parse (P := P) (w := w) (base := base) T).mono (by decide)) (m.rm.mono (by decide)) m.tk T.mC_Log T.b_Log_parse (va_cons (v_var 0) va_nil))))) (m.tr tk po)) (by
      intro c hc
      simp only [List.mem_cons, List.not_mem_nil, or_false] at hc
      rcases hc with rfl | rfl
      · exact T.xt_InvalidText_StoreError
      · exact T.xt_NotLawful_StoreError) ⟨rfl, by decide +kernel, .inl T.xg_StoreError⟩ rfl rfl rfl (Or.inl rfl) (Or.inl rfl) (by decide) (by decide) (by decide) (by show 3 < N__law_told.length; decide) (by decide) (by decide))
    (b_cons (s_if (t_isN (v_var 1) v_non)
    (b_one (s_ret (v_ifx (t_val (v_isC (c := 3) T.cf_Log T.oc_Log T.ki_Log T.z_isinstance T.mC_Log (v_var 2))) (v_strO (c := 3) (k := 1) (v_var 2) T.mt_Logx_strx ((ok_Logx_strx (P := P) (w := w) (base := base) T).mono (by decide)) (m.rm.mono (by decide)) T.b_Logx_strx T.z_str) v_str)))
    b_nil)
    (b_cons (s_if (t_val (v_isE (c := 1) (by
      intro c hc
      simp only [List.mem_cons, List.not_mem_nil, or_false] at hc
      rcases hc with rfl | rfl
      · exact T.xc_InvalidText
      · exact T.xc_NotLawful) (by
      intro c hc
      simp only [List.mem_cons, List.not_mem_nil, or_false] at hc
      rcases hc with rfl | rfl
      · exact T.kx_InvalidText_InvalidText
      · exact T.kx_NotLawful_InvalidText) T.z_isinstance T.x_InvalidText.gC (v_var 1)))
    (b_one (s_ret (v_tup (va_cons v_str (va_cons (v_err (c := 1) ⟨T.x_InvalidText.ga, T.x_InvalidText.gg, T.x_InvalidText.exC, T.x_InvalidText.hdC, T.x_InvalidText.noN⟩ rfl (v_var 1)) va_nil)))))
    b_nil)
    (b_one (s_ret (v_ifx (t_val (v_isE (c := 2) (by
      intro c hc
      simp only [List.mem_cons, List.not_mem_nil, or_false] at hc
      rcases hc with rfl | rfl
      · exact T.xc_InvalidText
      · exact T.xc_NotLawful) (by
      intro c hc
      simp only [List.mem_cons, List.not_mem_nil, or_false] at hc
      rcases hc with rfl | rfl
      · exact T.kx_InvalidText_NotLawful
      · exact T.kx_NotLawful_NotLawful) T.z_isinstance T.x_NotLawful.gC (v_var 1))) (v_tup (va_cons v_str (va_cons (v_err (c := 2) ⟨T.x_NotLawful.ga, T.x_NotLawful.gg, T.x_NotLawful.exC, T.x_NotLawful.hdC, T.x_NotLawful.noN⟩ rfl (v_var 1)) va_nil))) v_str)))))))
theorem ok__law_number (T : Tx K mg C_Log C_StoreError C_InvalidText C_NotLawful f__law_feed f__law_take f__law_pick f__law_text f__law_days f__law_changed f_stocks_of f_repeated f_Logx_initx f_read_number f_read_day f_Log_parse f_Logx_strx f__law_told f__law_number f__law_stock f__law_due f_law p_Log_parse fX_InvalidText fX_NotLawful fd__law_feed fd__law_take fd__law_pick fd__law_text fd__law_days fd__law_changed fd_stocks_of fd_repeated fd_Logx_initx fd_read_number fd_read_day fd_Log_parse fd_Logx_strx fd__law_told fd__law_number fd__law_stock fd__law_due fd_law dv_Logx_initx_1_ g_Logx_initx_1_) : FnG P w K mg base 1 f__law_number fd__law_number ["word"] (spV (gx K C_Log C_StoreError C_InvalidText C_NotLawful w) 1 [] den__law_number) :=
  fn_v (k := 0) (G := gx K C_Log C_StoreError C_InvalidText C_NotLawful w) (N := N__law_number) (ps := ["word"]) T.F__law_number sc__law_number (by decide) [] fun cdv A outer s0 H E m =>
    (b_cons (s_if (PW.pt (t_or (t_eq m.rm.r (v_var 0) v_str) (t_or1 (t_ne m.rm.r (v_comp (own := [("sign", 1)]) rfl sc__law_number.nd (i_txt (v_var 0)) (by show BlkOk N__law_number (defScope s__law_number) _ _; exact ⟨rfl, by decide +kernel, by decide +kernel, by decide +kernel, by decide +kernel⟩) (fun _ _ _ _ _ => (g_name 1 sc__law_number.nd (by decide))) (fun _ _ _ _ _ => (t_one (t_notInT (v_var 1) v_str))) (fun _ _ _ _ _ => (v_fz (v_var 1))) (by decide) (by decide)) (v_lst va_nil)))))
    (b_one (s_ret v_non))
    b_nil)
    (b_cons (s_if (PW.pt (t_and (t_eq m.rm.r (v_ixS (v_var 0) v_int) v_str) (t_and1 (t_ne m.rm.r (v_var 0) v_str))))
    (b_one (s_ret v_non))
    b_nil)
    (b_one (s_ret (v_ifx (t_lt (v_len rfl T.z_len (v_var 0)) v_int) (v_intT T.z_int (v_var 0)) (v_pow v_int v_int))))))
theorem ok__law_stock (T : Tx K mg C_Log C_StoreError C_InvalidText C_NotLawful f__law_feed f__law_take f__law_pick f__law_text f__law_days f__law_changed f_stocks_of f_repeated f_Logx_initx f_read_number f_read_day f_Log_parse f_Logx_strx f__law_told f__law_number f__law_stock f__law_due f_law p_Log_parse fX_InvalidText fX_NotLawful fd__law_feed fd__law_take fd__law_pick fd__law_text fd__law_days fd__law_changed fd_stocks_of fd_repeated fd_Logx_initx fd_read_number fd_read_day fd_Log_parse fd_Logx_strx fd__law_told fd__law_number fd__law_stock fd__law_due fd_law dv_Logx_initx_1_ g_Logx_initx_1_) : FnG P w K mg base 1 f__law_stock fd__law_stock ["days", "day"] (spV (gx K C_Log C_StoreError C_InvalidText C_NotLawful w) 2 [] den__law_stock) :=
  fn_v (k := 0) (G := gx K C_Log C_StoreError C_InvalidText C_NotLawful w) (N := N__law_stock) (ps := ["days", "day"]) T.F__law_stock sc__law_stock (by decide) [] fun cdv A outer s0 H E m =>
    (b_one (s_ret (v_sumA rfl T.z_sum (v_comp (own := [("arrived", 2), ("left", 3)]) rfl sc__law_stock.nd (i_seq (v_sl (v_var 0) vo_none (vo_some (v_add (v_var 1) v_int))) rfl) (by show BlkOk N__law_stock (defScope s__law_stock) _ _; exact ⟨rfl, by decide +kernel, by decide +kernel, by decide +kernel, by decide +kernel⟩) (fun _ _ _ _ _ => (g_tup rfl (gs_cons (g_name 2 sc__law_stock.nd (by decide)) (gs_cons (g_name 3 sc__law_stock.nd (by decide)) gs_nil)) (len_cons (len_cons len_nil)))) (fun _ _ _ _ _ => t_yes) (fun _ _ _ _ _ => (v_sub (v_var 2) (v_var 3))) (by decide) (by decide)))))
theorem ok__law_due (T : Tx K mg C_Log C_StoreError C_InvalidText C_NotLawful f__law_feed f__law_take f__law_pick f__law_text f__law_days f__law_changed f_stocks_of f_repeated f_Logx_initx f_read_number f_read_day f_Log_parse f_Logx_strx f__law_told f__law_number f__law_stock f__law_due f_law p_Log_parse fX_InvalidText fX_NotLawful fd__law_feed fd__law_take fd__law_pick fd__law_text fd__law_days fd__law_changed fd_stocks_of fd_repeated fd_Logx_initx fd_read_number fd_read_day fd_Log_parse fd_Logx_strx fd__law_told fd__law_number fd__law_stock fd__law_due fd_law dv_Logx_initx_1_ g_Logx_initx_1_) : FnG P w K mg base 2 f__law_due fd__law_due ["text"] (spV (gx K C_Log C_StoreError C_InvalidText C_NotLawful w) 1 [] den__law_due) :=
  fn_v (k := 1) (G := gx K C_Log C_StoreError C_InvalidText C_NotLawful w) (N := N__law_due) (ps := ["text"]) T.F__law_due sc__law_due (by decide) [] fun cdv A outer s0 H E m =>
    (b_cons (s_set (i := 1) sc__law_due.nd (by decide) (v_lst va_nil))
    (b_cons (s_for m.po rfl (i_enA T.z_enumerate (v_split (v_var 0) v_str)) (g_tup rfl (gs_cons (g_name 2 sc__law_due.nd (by decide)) (gs_cons (g_name 3 sc__law_due.nd (by decide)) gs_nil)) (len_cons (len_cons len_nil)))
    (b_cons (s_setLc (i := 4) (own := [("word", 6)]) rfl sc__law_due.nd rfl rfl (by decide) rfl (i_seq (v_split (v_var 3) v_str) rfl) (by show BlkOk N__law_due (defScope s__law_due) _ _; exact ⟨rfl, by decide +kernel, by decide +kernel, by decide +kernel, by decide +kernel⟩) (fun _ _ _ _ _ => (g_name 6 sc__law_due.nd (by decide))) (fun _ _ _ _ _ => t_yes) (fun _ _ _ _ _ => (v_call (k := 1) ((ok__law_number (P := P) (w := w) (base := base) T).mono (by decide)) (m.rm.mono (by decide)) takesW0 T.m__law_number T.k__law_number T.b__law_number (va_cons (v_var 6) va_nil))) (by decide) (by decide))
    (b_cons (s_if (PW.pt (t_or (t_ne m.rm.r (v_len rfl T.z_len (v_var 4)) v_int) (t_or (t_inE m.rm.r v_non (v_var 4)) (t_or1 (t_gt (v_var 2) v_int)))))
    (b_one (s_ret (v_tup (va_cons v_str (va_cons (v_fz (v_var 2)) va_nil)))))
    b_nil)
    (b_cons (s_expr (v_lm (i := 1) lm_app PySem.F.slot_list_append PySem.F.type_list_append mt_append rfl (by first | exact Or.inl rfl | exact Or.inr (Or.inl rfl) | exact Or.inr (Or.inr rfl)) (by decide) (by decide) (va_cons (v_tup (va_cons (v_idx rfl (v_var 4) v_int) (va_cons (v_idx rfl (v_var 4) v_int) va_nil))) va_nil)))
    (b_one (s_if (t_gt (v_sumA rfl T.z_sum (v_bor (i := 1) (v_comp (own := [("day", 5)]) rfl sc__law_due.nd (i_seq (v_var 1) rfl) (by show BlkOk N__law_due (defScope s__law_due) _ _; exact ⟨rfl, by decide +kernel, by decide +kernel, by decide +kernel, by decide +kernel⟩) (fun _ _ _ _ _ => (g_name 5 sc__law_due.nd (by decide))) (fun _ _ _ _ _ => t_yes) (fun _ _ _ _ _ => (v_idx rfl (v_var 5) v_int)) (by decide) (by decide)))) v_int)
    (b_one (s_ret (v_tup (va_cons v_str (va_cons (v_fz (v_var 2)) va_nil)))))
    b_nil))))))
    (b_cons (s_for m.po rfl (i_r1 T.z_range (v_len rfl T.z_len (v_var 1))) (g_name 5 sc__law_due.nd (by decide))
    (b_one (s_if (t_lt (v_call (k := 1) ((ok__law_stock (P := P) (w := w) (base := base) T).mono (by decide)) (m.rm.mono (by decide)) m.tk T.m__law_stock T.k__law_stock T.b__law_stock (va_cons (v_var 1) (va_cons (v_var 5) va_nil))) v_int)
    (b_one (s_ret (v_tup (va_cons v_str (va_cons (v_fz (v_var 5)) va_nil)))))
    b_nil)))
    (b_one (s_ret (v_mv (v_var 0)))))))
theorem ok_law (T : Tx K mg C_Log C_StoreError C_InvalidText C_NotLawful f__law_feed f__law_take f__law_pick f__law_text f__law_days f__law_changed f_stocks_of f_repeated f_Logx_initx f_read_number f_read_day f_Log_parse f_Logx_strx f__law_told f__law_number f__law_stock f__law_due f_law p_Log_parse fX_InvalidText fX_NotLawful fd__law_feed fd__law_take fd__law_pick fd__law_text fd__law_days fd__law_changed fd_stocks_of fd_repeated fd_Logx_initx fd_read_number fd_read_day fd_Log_parse fd_Logx_strx fd__law_told fd__law_number fd__law_stock fd__law_due fd_law dv_Logx_initx_1_ g_Logx_initx_1_) : FnG P w K mg base 6 f_law fd_law ["script"] (spV (gx K C_Log C_StoreError C_InvalidText C_NotLawful w) 1 [] den_law) :=
  fn_v (k := 5) (G := gx K C_Log C_StoreError C_InvalidText C_NotLawful w) (N := N_law) (ps := ["script"]) T.F_law sc_law (by decide) [] fun cdv A outer s0 H E m =>
    (b_cons (s_set (i := 1) sc_law.nd (by decide) (v_mulS v_str v_int))
    (b_cons (s_for m.po rfl (i_r1 T.z_range (v_max2 rfl T.z_max v_int (v_min2 rfl T.z_min v_int (v_len rfl T.z_len (v_var 0))))) (g_name 2 sc_law.nd (by decide))
    (b_cons (s_set (i := 3) sc_law.nd (by decide) (v_call (k := 1) ((ok__law_feed (P := P) (w := w) (base := base) T).mono (by decide)) (m.rm.mono (by decide)) m.tk T.m__law_feed T.k__law_feed T.b__law_feed (va_cons (v_var 0) (va_cons (v_var 2) va_nil))))
    (b_cons (s_set (i := 4) sc_law.nd (by decide) (v_lst (va_cons v_str (va_cons v_str (va_cons v_str (va_cons v_str (va_cons v_str (va_cons v_str (va_cons v_str (va_cons v_str (va_cons v_str (va_cons v_str va_nil))))))))))))
    (b_cons (s_set (i := 4) sc_law.nd (by decide) (v_add (v_var 4) (v_lst (va_cons v_str (va_cons (v_add v_str (v_var 1)) (va_cons (v_add (v_var 1) v_str) (va_cons (v_add v_str (v_mulS v_str v_int)) (va_cons v_str (va_cons v_str va_nil)))))))))
    (b_cons (s_set (i := 4) sc_law.nd (by decide) (v_add (v_var 4) (v_lst (va_cons v_str (va_cons v_str (va_cons v_str (va_cons v_str (va_cons v_str (va_cons v_str (va_cons v_str va_nil))))))))))
    (b_cons (s_par (i := 5) (j := 6) rfl sc_law.nd (by decide) (by decide) (va_cons (v_call (k := 1) ((ok__law_take (P := P) (w := w) (base := base) T).mono (by decide)) (m.rm.mono (by decide)) m.tk T.m__law_take T.k__law_take T.b__law_take (va_cons (v_var 3) (va_cons v_int va_nil))) (va_cons (v_call (k := 2) ((ok__law_pick (P := P) (w := w) (base := base) T).mono (by decide)) (m.rm.mono (by decide)) m.tk T.m__law_pick T.k__law_pick T.b__law_pick (va_cons (v_var 3) (va_cons (v_lst (va_cons v_str (va_cons v_str (va_cons v_str (va_cons v_str (va_cons v_str va_nil)))))) va_nil))) va_nil)))
    (b_cons (s_for m.po rfl (i_seq (v_lst (va_cons (v_add (v_add (v_mul (v_lst (va_cons v_str va_nil)) (v_var 5)) (v_lst (va_cons (v_fz (v_var 6)) va_nil))) (v_mul (v_lst (va_cons v_str va_nil)) v_int)) (va_cons (v_add (v_mul (v_lst (va_cons v_str va_nil)) v_int) (v_mul (v_lst (va_cons v_str va_nil)) v_int)) va_nil))) rfl) (g_name 7 sc_law.nd (by decide))
    (b_one (s_expr (v_lm (i := 4) lm_app PySem.F.slot_list_append PySem.F.type_list_append mt_append rfl (by first | exact Or.inl rfl | exact Or.inr (Or.inl rfl) | exact Or.inr (Or.inr rfl)) (by decide) (by decide) (va_cons (v_join v_str (v_var 7)) va_nil)))))
    (b_cons (s_for m.po rfl (i_seq (v_lst (va_cons (v_mul (v_lst (va_cons v_str va_nil)) v_int) (va_cons (v_mul (v_lst (va_cons v_str va_nil)) v_int) (va_cons (v_add (v_mul (v_lst (va_cons v_str va_nil)) v_int) (v_lst (va_cons v_str va_nil))) (va_cons (v_add (v_mul (v_lst (va_cons v_str va_nil)) v_int) (v_lst (va_cons v_str va_nil))) va_nil))))) rfl) (g_name 7 sc_law.nd (by decide))
    (b_one (s_expr (v_lm (i := 4) lm_app PySem.F.slot_list_append PySem.F.type_list_append mt_append rfl (by first | exact Or.inl rfl | exact Or.inr (Or.inl rfl) | exact Or.inr (Or.inr rfl)) (by decide) (by decide) (va_cons (v_join v_str (v_var 7)) va_nil)))))
    (b_cons (s_expr (v_lm (i := 4) lm_app PySem.F.slot_list_append PySem.F.type_list_append mt_append rfl (by first | exact Or.inl rfl | exact Or.inr (Or.inl rfl) | exact Or.inr (Or.inr rfl)) (by decide) (by decide) (va_cons (v_join v_str (v_add (v_lst (va_cons v_str va_nil)) (v_mul (v_lst (va_cons v_str va_nil)) v_int))) va_nil)))
    (b_cons (s_for m.po rfl (i_r1 T.z_range v_int) (g_name 8 sc_law.nd (by decide))
    (b_cons (s_set (i := 9) sc_law.nd (by decide) (v_call (k := 1) ((ok__law_text (P := P) (w := w) (base := base) T).mono (by decide)) (m.rm.mono (by decide)) m.tk T.m__law_text T.k__law_text T.b__law_text (va_cons (v_call (k := 3) ((ok__law_days (P := P) (w := w) (base := base) T).mono (by decide)) (m.rm.mono (by decide)) m.tk T.m__law_days T.k__law_days T.b__law_days (va_cons (v_var 3) (va_cons (v_call (k := 2) ((ok__law_pick (P := P) (w := w) (base := base) T).mono (by decide)) (m.rm.mono (by decide)) m.tk T.m__law_pick T.k__law_pick T.b__law_pick (va_cons (v_var 3) (va_cons (v_lst (va_cons v_int (va_cons v_int (va_cons v_int va_nil)))) va_nil))) (va_cons v_int va_nil)))) va_nil)))
    (b_cons (s_for m.po rfl (i_r1 T.z_range (v_call (k := 2) ((ok__law_pick (P := P) (w := w) (base := base) T).mono (by decide)) (m.rm.mono (by decide)) m.tk T.m__law_pick T.k__law_pick T.b__law_pick (va_cons (v_var 3) (va_cons (v_lst (va_cons v_int (va_cons v_int (va_cons v_int (va_cons v_int (va_cons v_int va_nil)))))) va_nil)))) (g_name 10 sc_law.nd (by decide))
    (b_one (s_set (i := 9) sc_law.nd (by decide) (v_call (k := 3) ((ok__law_changed (P := P) (w := w) (base := base) T).mono (by decide)) (m.rm.mono (by decide)) m.tk T.m__law_changed T.k__law_changed T.b__law_changed (va_cons (v_var 3) (va_cons (v_var 9) va_nil))))))
    (b_one (s_expr (v_lm (i := 4) lm_app PySem.F.slot_list_append PySem.F.type_list_append mt_append rfl (by first | exact Or.inl rfl | exact Or.inr (Or.inl rfl) | exact Or.inr (Or.inr rfl)) (by decide) (by decide) (va_cons (v_fz (v_var 9)) va_nil)))))))
    (b_one (s_if (t_ne m.rm.r (v_comp (own := [("text", 9)]) rfl sc_law.nd (i_seq (v_fz (v_var 4)) rfl) (by show BlkOk N_law (defScope s_law) _ _; exact ⟨rfl, by decide +kernel, by decide +kernel, by decide +kernel, by decide +kernel⟩) (fun _ _ _ _ _ => (g_name 9 sc_law.nd (by decide))) (fun _ _ _ _ _ => (t_one (t_ne m.rm.r (v_repr2 m.rm T.z_repr (v_call (k := 5) ((ok__law_told (P := P) (w := w) (base := base) T).mono (by decide)) (m.rm.mono (by decide)) takesW0 T.m__law_told T.k__law_told T.b__law_told (va_cons (v_var 9) va_nil))) (v_repr2 m.rm T.z_repr (v_call (k := 2) ((ok__law_due (P := P) (w := w) (base := base) T).mono (by decide)) (m.rm.mono (by decide)) takesW0 T.m__law_due T.k__law_due T.b__law_due (va_cons (v_var 9) va_nil)))))) (fun _ _ _ _ _ => (v_fz (v_var 9))) (by decide) (by decide)) (v_lst va_nil))
    (b_one (s_ret v_bl))
    b_nil))))))))))))
    (b_one (s_ret v_bl))))
end
section
variable {K : PySem.W.Frag} {mg : Str → Option Value} {h : Heap} {fa : Addr} {C_Log C_StoreError C_InvalidText C_NotLawful : Addr} {f__law_feed f__law_take f__law_pick f__law_text f__law_days f__law_changed f_stocks_of f_repeated f_Logx_initx f_read_number f_read_day f_Log_parse f_Logx_strx f__law_told f__law_number f__law_stock f__law_due f_law : Addr} {p_Log_parse fX_InvalidText fX_NotLawful : Addr}
  {oc__law_feed dc__law_feed pm__law_feed cd__law_feed ct__law_feed kV__law_feed : Value} {od__law_feed an__law_feed : Option Addr} {sl__law_feed : Array (Option Value)}
  {oc__law_take dc__law_take pm__law_take cd__law_take ct__law_take kV__law_take : Value} {od__law_take an__law_take : Option Addr} {sl__law_take : Array (Option Value)}
  {oc__law_pick dc__law_pick pm__law_pick cd__law_pick ct__law_pick kV__law_pick : Value} {od__law_pick an__law_pick : Option Addr} {sl__law_pick : Array (Option Value)}
  {oc__law_text dc__law_text pm__law_text cd__law_text ct__law_text kV__law_text : Value} {od__law_text an__law_text : Option Addr} {sl__law_text : Array (Option Value)}
  {oc__law_days dc__law_days pm__law_days cd__law_days ct__law_days kV__law_days : Value} {od__law_days an__law_days : Option Addr} {sl__law_days : Array (Option Value)}
  {oc__law_changed dc__law_changed pm__law_changed cd__law_changed ct__law_changed kV__law_changed : Value} {od__law_changed an__law_changed : Option Addr} {sl__law_changed : Array (Option Value)}
  {oc_stocks_of dc_stocks_of pm_stocks_of cd_stocks_of ct_stocks_of kV_stocks_of : Value} {od_stocks_of an_stocks_of : Option Addr} {sl_stocks_of : Array (Option Value)}
  {oc_repeated dc_repeated pm_repeated cd_repeated ct_repeated kV_repeated : Value} {od_repeated an_repeated : Option Addr} {sl_repeated : Array (Option Value)}
  {oc_Logx_initx dc_Logx_initx pm_Logx_initx cd_Logx_initx ct_Logx_initx kV_Logx_initx : Value} {od_Logx_initx an_Logx_initx : Option Addr} {sl_Logx_initx : Array (Option Value)}
  {oc_read_number dc_read_number pm_read_number cd_read_number ct_read_number kV_read_number : Value} {od_read_number an_read_number : Option Addr} {sl_read_number : Array (Option Value)}
  {oc_read_day dc_read_day pm_read_day cd_read_day ct_read_day kV_read_day : Value} {od_read_day an_read_day : Option Addr} {sl_read_day : Array (Option Value)}
  {oc_Log_parse dc_Log_parse pm_Log_parse cd_Log_parse ct_Log_parse kV_Log_parse : Value} {od_Log_parse an_Log_parse : Option Addr} {sl_Log_parse : Array (Option Value)} {rest_Log_parse : List Value}
  {oc_Logx_strx dc_Logx_strx pm_Logx_strx cd_Logx_strx ct_Logx_strx kV_Logx_strx : Value} {od_Logx_strx an_Logx_strx : Option Addr} {sl_Logx_strx : Array (Option Value)}
  {oc__law_told dc__law_told pm__law_told cd__law_told ct__law_told kV__law_told : Value} {od__law_told an__law_told : Option Addr} {sl__law_told : Array (Option Value)}
  {oc__law_number dc__law_number pm__law_number cd__law_number ct__law_number kV__law_number : Value} {od__law_number an__law_number : Option Addr} {sl__law_number : Array (Option Value)}
  {oc__law_stock dc__law_stock pm__law_stock cd__law_stock ct__law_stock kV__law_stock : Value} {od__law_stock an__law_stock : Option Addr} {sl__law_stock : Array (Option Value)}
  {oc__law_due dc__law_due pm__law_due cd__law_due ct__law_due kV__law_due : Value} {od__law_due an__law_due : Option Addr} {sl__law_due : Array (Option Value)}
  {oc_law dc_law pm_law cd_law ct_law kV_law : Value} {od_law an_law : Option Addr} {sl_law : Array (Option Value)}
  {gt_DIGITS : Tok}
  {gt_MANY : Tok}
  {gt_MAX_DAYS : Tok}
  {gt_MAX_UNITS : Tok}
  {xnm_InvalidText xqn_InvalidText : Str} {xN_InvalidText fX0_InvalidText : Addr} {xbs_InvalidText xsub_InvalidText : List Value} {xsn_InvalidText : List Str} {xab_InvalidText : Bool} {xcol_InvalidText : Option Bool} {xdd_InvalidText xod_InvalidText xan_InvalidText : Option Addr} {xm0_InvalidText xm1_InvalidText xm2_InvalidText xm3_InvalidText xm5_InvalidText : Option Value} {xoc_InvalidText xdc_InvalidText xpm_InvalidText xcd_InvalidText xct_InvalidText : Value} {xsl_InvalidText : Array (Option Value)}
  {xnm_NotLawful xqn_NotLawful : Str} {xN_NotLawful fX0_NotLawful : Addr} {xbs_NotLawful xsub_NotLawful : List Value} {xsn_NotLawful : List Str} {xab_NotLawful : Bool} {xcol_NotLawful : Option Bool} {xdd_NotLawful xod_NotLawful xan_NotLawful : Option Addr} {xm0_NotLawful xm1_NotLawful xm2_NotLawful xm3_NotLawful xm5_NotLawful : Option Value} {xoc_NotLawful xdc_NotLawful xpm_NotLawful xcd_NotLawful xct_NotLawful : Value} {xsl_NotLawful : Array (Option Value)}
theorem all_mk {P : Program} {w : World} (X : K.In h) (Gn : h.Ns mainGlobals mg) (hfa : mg "law" = some (.ref fa))
    (aC_Log : PySem.W.nsIn K mainGlobals "Log" = some (some (.ref C_Log)))
    (a__law_feed : PySem.W.nsIn K mainGlobals "_law_feed" = some (some (.ref f__law_feed)))
    (l__law_feed : K.lookup f__law_feed = some ⟨oc__law_feed, od__law_feed, .func (PySem.W.fnOf "_law_feed" "_law_feed" (defArgs s__law_feed) (defBody s__law_feed) (defScope s__law_feed) .none kV__law_feed dc__law_feed pm__law_feed an__law_feed cd__law_feed ct__law_feed), sl__law_feed⟩)
    (c__law_feed : PySem.W.codeIn K cd__law_feed "_law_feed" = true)
    (k__law_feed : PySem.W.keepIn K (.ref f__law_feed) = true)
    (a__law_take : PySem.W.nsIn K mainGlobals "_law_take" = some (some (.ref f__law_take)))
    (l__law_take : K.lookup f__law_take = some ⟨oc__law_take, od__law_take, .func (PySem.W.fnOf "_law_take" "_law_take" (defArgs s__law_take) (defBody s__law_take) (defScope s__law_take) .none kV__law_take dc__law_take pm__law_take an__law_take cd__law_take ct__law_take), sl__law_take⟩)
    (c__law_take : PySem.W.codeIn K cd__law_take "_law_take" = true)
    (k__law_take : PySem.W.keepIn K (.ref f__law_take) = true)
    (a__law_pick : PySem.W.nsIn K mainGlobals "_law_pick" = some (some (.ref f__law_pick)))
    (l__law_pick : K.lookup f__law_pick = some ⟨oc__law_pick, od__law_pick, .func (PySem.W.fnOf "_law_pick" "_law_pick" (defArgs s__law_pick) (defBody s__law_pick) (defScope s__law_pick) .none kV__law_pick dc__law_pick pm__law_pick an__law_pick cd__law_pick ct__law_pick), sl__law_pick⟩)
    (c__law_pick : PySem.W.codeIn K cd__law_pick "_law_pick" = true)
    (k__law_pick : PySem.W.keepIn K (.ref f__law_pick) = true)
    (a__law_text : PySem.W.nsIn K mainGlobals "_law_text" = some (some (.ref f__law_text)))
    (l__law_text : K.lookup f__law_text = some ⟨oc__law_text, od__law_text, .func (PySem.W.fnOf "_law_text" "_law_text" (defArgs s__law_text) (defBody s__law_text) (defScope s__law_text) .none kV__law_text dc__law_text pm__law_text an__law_text cd__law_text ct__law_text), sl__law_text⟩)
    (c__law_text : PySem.W.codeIn K cd__law_text "_law_text" = true)
    (k__law_text : PySem.W.keepIn K (.ref f__law_text) = true)
    (a__law_days : PySem.W.nsIn K mainGlobals "_law_days" = some (some (.ref f__law_days)))
    (l__law_days : K.lookup f__law_days = some ⟨oc__law_days, od__law_days, .func (PySem.W.fnOf "_law_days" "_law_days" (defArgs s__law_days) (defBody s__law_days) (defScope s__law_days) .none kV__law_days dc__law_days pm__law_days an__law_days cd__law_days ct__law_days), sl__law_days⟩)
    (c__law_days : PySem.W.codeIn K cd__law_days "_law_days" = true)
    (k__law_days : PySem.W.keepIn K (.ref f__law_days) = true)
    (a__law_changed : PySem.W.nsIn K mainGlobals "_law_changed" = some (some (.ref f__law_changed)))
    (l__law_changed : K.lookup f__law_changed = some ⟨oc__law_changed, od__law_changed, .func (PySem.W.fnOf "_law_changed" "_law_changed" (defArgs s__law_changed) (defBody s__law_changed) (defScope s__law_changed) .none kV__law_changed dc__law_changed pm__law_changed an__law_changed cd__law_changed ct__law_changed), sl__law_changed⟩)
    (c__law_changed : PySem.W.codeIn K cd__law_changed "_law_changed" = true)
    (k__law_changed : PySem.W.keepIn K (.ref f__law_changed) = true)
    (a_stocks_of : PySem.W.nsIn K mainGlobals "stocks_of" = some (some (.ref f_stocks_of)))
    (l_stocks_of : K.lookup f_stocks_of = some ⟨oc_stocks_of, od_stocks_of, .func (PySem.W.fnOf "stocks_of" "stocks_of" (defArgs s_stocks_of) (defBody s_stocks_of) (defScope s_stocks_of) .none kV_stocks_of dc_stocks_of pm_stocks_of an_stocks_of cd_stocks_of ct_stocks_of), sl_stocks_of⟩)
    (c_stocks_of : PySem.W.codeIn K cd_stocks_of "stocks_of" = true)
    (k_stocks_of : PySem.W.keepIn K (.ref f_stocks_of) = true)
    (a_repeated : PySem.W.nsIn K mainGlobals "repeated" = some (some (.ref f_repeated)))
    (l_repeated : K.lookup f_repeated = some ⟨oc_repeated, od_repeated, .func (PySem.W.fnOf "repeated" "repeated" (defArgs s_repeated) (defBody s_repeated) (defScope s_repeated) .none kV_repeated dc_repeated pm_repeated an_repeated cd_repeated ct_repeated), sl_repeated⟩)
    (c_repeated : PySem.W.codeIn K cd_repeated "repeated" = true)
    (k_repeated : PySem.W.keepIn K (.ref f_repeated) = true)
    (a_Logx_initx : PySem.W.findIn K (.ref C_Log) "__init__" = some (some (.ref f_Logx_initx)))
    (i_Logx_initx : PySem.W.isFn K (.ref f_Logx_initx) = true)
    (l_Logx_initx : K.lookup f_Logx_initx = some ⟨oc_Logx_initx, od_Logx_initx, .func (PySem.W.fnOf "__init__" "Log.__init__" (defArgs s_Logx_initx) (defBody s_Logx_initx) (defScope s_Logx_initx) .none kV_Logx_initx dc_Logx_initx pm_Logx_initx an_Logx_initx cd_Logx_initx ct_Logx_initx), sl_Logx_initx⟩)
    (c_Logx_initx : PySem.W.codeIn K cd_Logx_initx "Log.__init__" = true)
    (k_Logx_initx : PySem.W.keepIn K (.ref f_Logx_initx) = true)
    (a_read_number : PySem.W.nsIn K mainGlobals "read_number" = some (some (.ref f_read_number)))
    (l_read_number : K.lookup f_read_number = some ⟨oc_read_number, od_read_number, .func (PySem.W.fnOf "read_number" "read_number" (defArgs s_read_number) (defBody s_read_number) (defScope s_read_number) .none kV_read_number dc_read_number pm_read_number an_read_number cd_read_number ct_read_number), sl_read_number⟩)
    (c_read_number : PySem.W.codeIn K cd_read_number "read_number" = true)
    (k_read_number : PySem.W.keepIn K (.ref f_read_number) = true)
    (a_read_day : PySem.W.nsIn K mainGlobals "read_day" = some (some (.ref f_read_day)))
    (l_read_day : K.lookup f_read_day = some ⟨oc_read_day, od_read_day, .func (PySem.W.fnOf "read_day" "read_day" (defArgs s_read_day) (defBody s_read_day) (defScope s_read_day) .none kV_read_day dc_read_day pm_read_day an_read_day cd_read_day ct_read_day), sl_read_day⟩)
    (c_read_day : PySem.W.codeIn K cd_read_day "read_day" = true)
    (k_read_day : PySem.W.keepIn K (.ref f_read_day) = true)
    (a_Log_parse : PySem.W.findCls K (.ref C_Log) (.type "type") "parse" = some (.get (.builtin "classmethod.__get__") (.ref p_Log_parse) .none (.ref C_Log)))
    (pc_Log_parse : PySem.W.recIn K p_Log_parse "classmethod" = some (.ref f_Log_parse :: rest_Log_parse))
    (pf_Log_parse : PySem.W.fnIn K f_Log_parse = true)
    (cr1_Log_parse : PySem.W.readsIn K C_Log (.type "type") = true)
    (cr2_Log_parse : PySem.W.specialIn K (.ref C_Log) "__getattribute__" = some (some (.builtin "type.__getattribute__")))
    (l_Log_parse : K.lookup f_Log_parse = some ⟨oc_Log_parse, od_Log_parse, .func (PySem.W.fnOf "parse" "Log.parse" (defArgs s_Log_parse) (defBody s_Log_parse) (defScope s_Log_parse) .none kV_Log_parse dc_Log_parse pm_Log_parse an_Log_parse cd_Log_parse ct_Log_parse), sl_Log_parse⟩)
    (c_Log_parse : PySem.W.codeIn K cd_Log_parse "Log.parse" = true)
    (k_Log_parse : PySem.W.keepIn K (.ref f_Log_parse) = true)
    (a_Logx_strx : PySem.W.findIn K (.ref C_Log) "__str__" = some (some (.ref f_Logx_strx)))
    (i_Logx_strx : PySem.W.isFn K (.ref f_Logx_strx) = true)
    (l_Logx_strx : K.lookup f_Logx_strx = some ⟨oc_Logx_strx, od_Logx_strx, .func (PySem.W.fnOf "__str__" "Log.__str__" (defArgs s_Logx_strx) (defBody s_Logx_strx) (defScope s_Logx_strx) .none kV_Logx_strx dc_Logx_strx pm_Logx_strx an_Logx_strx cd_Logx_strx ct_Logx_strx), sl_Logx_strx⟩)
    (c_Logx_strx : PySem.W.codeIn K cd_Logx_strx "Log.__str__" = true)
    (k_Logx_strx : PySem.W.keepIn K (.ref f_Logx_strx) = true)
    (a__law_told : PySem.W.nsIn K mainGlobals "_law_told" = some (some (.ref f__law_told)))
    (l__law_told : K.lookup f__law_told = some ⟨oc__law_told, od__law_told, .func (PySem.W.fnOf "_law_told" "_law_told" (defArgs s__law_told) (defBody s__law_told) (defScope s__law_told) .none kV__law_told dc__law_told pm__law_told an__law_told cd__law_told ct__law_told), sl__law_told⟩)
    (c__law_told : PySem.W.codeIn K cd__law_told "_law_told" = true)
    (k__law_told : PySem.W.keepIn K (.ref f__law_told) = true)
    (a__law_number : PySem.W.nsIn K mainGlobals "_law_number" = some (some (.ref f__law_number)))
    (l__law_number : K.lookup f__law_number = some ⟨oc__law_number, od__law_number, .func (PySem.W.fnOf "_law_number" "_law_number" (defArgs s__law_number) (defBody s__law_number) (defScope s__law_number) .none kV__law_number dc__law_number pm__law_number an__law_number cd__law_number ct__law_number), sl__law_number⟩)
    (c__law_number : PySem.W.codeIn K cd__law_number "_law_number" = true)
    (k__law_number : PySem.W.keepIn K (.ref f__law_number) = true)
    (a__law_stock : PySem.W.nsIn K mainGlobals "_law_stock" = some (some (.ref f__law_stock)))
    (l__law_stock : K.lookup f__law_stock = some ⟨oc__law_stock, od__law_stock, .func (PySem.W.fnOf "_law_stock" "_law_stock" (defArgs s__law_stock) (defBody s__law_stock) (defScope s__law_stock) .none kV__law_stock dc__law_stock pm__law_stock an__law_stock cd__law_stock ct__law_stock), sl__law_stock⟩)
    (c__law_stock : PySem.W.codeIn K cd__law_stock "_law_stock" = true)
    (k__law_stock : PySem.W.keepIn K (.ref f__law_stock) = true)
    (a__law_due : PySem.W.nsIn K mainGlobals "_law_due" = some (some (.ref f__law_due)))
    (l__law_due : K.lookup f__law_due = some ⟨oc__law_due, od__law_due, .func (PySem.W.fnOf "_law_due" "_law_due" (defArgs s__law_due) (defBody s__law_due) (defScope s__law_due) .none kV__law_due dc__law_due pm__law_due an__law_due cd__law_due ct__law_due), sl__law_due⟩)
    (c__law_due : PySem.W.codeIn K cd__law_due "_law_due" = true)
    (k__law_due : PySem.W.keepIn K (.ref f__law_due) = true)
    (a_law : PySem.W.nsIn K mainGlobals "law" = some (some (.ref f_law)))
    (l_law : K.lookup f_law = some ⟨oc_law, od_law, .func (PySem.W.fnOf "law" "law" (defArgs s_law) (defBody s_law) (defScope s_law) .none kV_law dc_law pm_law an_law cd_law ct_law), sl_law⟩)
    (c_law : PySem.W.codeIn K cd_law "law" = true)
    (k_law : PySem.W.keepIn K (.ref f_law) = true)
    (cg_Log : PySem.W.plainGet K C_Log Str.empty = true)
    (ch_Log : PySem.W.hasDictIn K C_Log = true)
    (co_Log : PySem.W.plainOver K C_Log = true)
    (cs_Log : PySem.W.findIn K (.ref C_Log) "__setattr__" = some (some (.builtin "object.__setattr__")))
    (na_Log_days : PySem.W.findIn K (.ref C_Log) "days" = some none)
    (na_Log_stocks : PySem.W.findIn K (.ref C_Log) "stocks" = some none)
    (na_Log_days_in : PySem.W.findIn K (.ref C_Log) "days_in" = some none)
    (na_Log_days_out : PySem.W.findIn K (.ref C_Log) "days_out" = some none)
    (cm_Log : PySem.W.makesIn K C_Log = true)
    (ck_Log : PySem.W.keepIn K (.ref C_Log) = true)
    (aC_StoreError : PySem.W.nsIn K mainGlobals "StoreError" = some (some (.ref C_StoreError)))
    (xk_StoreError : PySem.W.keepIn K (.ref C_StoreError) = true)
    (xe_StoreError : PySem.W.subIn K (.ref C_StoreError) (.type "BaseException") = some true)
    (xy_StoreError : PySem.W.typeIn K (.ref C_StoreError) = some (.type "type"))
    (xs_StoreError : PySem.W.isClsIn K C_StoreError = true)
    (xq_StoreError : PySem.W.excIn K C_StoreError [.type "ValueError", .type "Exception", .type "BaseException", .type "object"] "ValueError.__new__" = true)
    (aC_InvalidText : PySem.W.nsIn K mainGlobals "InvalidText" = some (some (.ref C_InvalidText)))
    (xk_InvalidText : PySem.W.keepIn K (.ref C_InvalidText) = true)
    (xe_InvalidText : PySem.W.subIn K (.ref C_InvalidText) (.type "BaseException") = some true)
    (xy_InvalidText : PySem.W.typeIn K (.ref C_InvalidText) = some (.type "type"))
    (xs_InvalidText : PySem.W.isClsIn K C_InvalidText = true)
    (xL_InvalidText : K.lookup C_InvalidText = some (excClassObj xnm_InvalidText xqn_InvalidText C_InvalidText xN_InvalidText xbs_InvalidText [.ref C_StoreError, .type "ValueError", .type "Exception", .type "BaseException", .type "object"] true xsn_InvalidText xsub_InvalidText xab_InvalidText xcol_InvalidText xdd_InvalidText xm0_InvalidText xm1_InvalidText xm2_InvalidText xm3_InvalidText xm5_InvalidText "ValueError.__new__"))
    (xsa_InvalidText : PySem.W.findIn K (.ref C_InvalidText) "__setattr__" = some (some (.builtin "object.__setattr__")))
    (xga_InvalidText : PySem.W.findIn K (.ref C_InvalidText) "__getattribute__" = some (some (.builtin "BaseException.__getattribute__")))
    (xgg_InvalidText : PySem.W.findIn K (.ref C_InvalidText) "__getattr__" = some none)
    (xnb_InvalidText : PySem.W.findIn K (.ref C_InvalidText) "row" = some none)
    (xi_InvalidText : PySem.W.findIn K (.ref C_InvalidText) "__init__" = some (some (.ref fX_InvalidText)))
    (xt_InvalidText : PySem.W.typeIn K (.ref fX_InvalidText) = some (.type "function"))
    (xl_InvalidText : K.lookup fX_InvalidText = some ⟨xoc_InvalidText, xod_InvalidText, .func (PySem.W.fnOf "__init__" "InvalidText.__init__" (PySem.LowX_InvalidText.iA ⟨6, 17, 6, 21⟩ ⟨6, 23, 6, 26⟩) (PySem.LowX_InvalidText.iB ⟨7, 8, 7, 12⟩ ⟨7, 8, 7, 16⟩ ⟨7, 19, 7, 22⟩ ⟨7, 8, 7, 22⟩) PySem.LowX_InvalidText.iS .none .none xdc_InvalidText xpm_InvalidText xan_InvalidText xcd_InvalidText xct_InvalidText), xsl_InvalidText⟩)
    (xc_InvalidText : PySem.W.codeIn K xcd_InvalidText "InvalidText.__init__" = true)
    (xh_InvalidText : PySem.W.hasDictIn K C_InvalidText = true)
    (aC_NotLawful : PySem.W.nsIn K mainGlobals "NotLawful" = some (some (.ref C_NotLawful)))
    (xk_NotLawful : PySem.W.keepIn K (.ref C_NotLawful) = true)
    (xe_NotLawful : PySem.W.subIn K (.ref C_NotLawful) (.type "BaseException") = some true)
    (xy_NotLawful : PySem.W.typeIn K (.ref C_NotLawful) = some (.type "type"))
    (xs_NotLawful : PySem.W.isClsIn K C_NotLawful = true)
    (xL_NotLawful : K.lookup C_NotLawful = some (excClassObj xnm_NotLawful xqn_NotLawful C_NotLawful xN_NotLawful xbs_NotLawful [.ref C_StoreError, .type "ValueError", .type "Exception", .type "BaseException", .type "object"] true xsn_NotLawful xsub_NotLawful xab_NotLawful xcol_NotLawful xdd_NotLawful xm0_NotLawful xm1_NotLawful xm2_NotLawful xm3_NotLawful xm5_NotLawful "ValueError.__new__"))
    (xsa_NotLawful : PySem.W.findIn K (.ref C_NotLawful) "__setattr__" = some (some (.builtin "object.__setattr__")))
    (xga_NotLawful : PySem.W.findIn K (.ref C_NotLawful) "__getattribute__" = some (some (.builtin "BaseException.__getattribute__")))
    (xgg_NotLawful : PySem.W.findIn K (.ref C_NotLawful) "__getattr__" = some none)
    (xnb_NotLawful : PySem.W.findIn K (.ref C_NotLawful) "day" = some none)
    (xi_NotLawful : PySem.W.findIn K (.ref C_NotLawful) "__init__" = some (some (.ref fX_NotLawful)))
    (xt_NotLawful : PySem.W.typeIn K (.ref fX_NotLawful) = some (.type "function"))
    (xl_NotLawful : K.lookup fX_NotLawful = some ⟨xoc_NotLawful, xod_NotLawful, .func (PySem.W.fnOf "__init__" "NotLawful.__init__" (PySem.LowX_NotLawful.iA ⟨10, 17, 10, 21⟩ ⟨10, 23, 10, 26⟩) (PySem.LowX_NotLawful.iB ⟨11, 8, 11, 12⟩ ⟨11, 8, 11, 16⟩ ⟨11, 19, 11, 22⟩ ⟨11, 8, 11, 22⟩) PySem.LowX_NotLawful.iS .none .none xdc_NotLawful xpm_NotLawful xan_NotLawful xcd_NotLawful xct_NotLawful), xsl_NotLawful⟩)
    (xc_NotLawful : PySem.W.codeIn K xcd_NotLawful "NotLawful.__init__" = true)
    (xh_NotLawful : PySem.W.hasDictIn K C_NotLawful = true)
    (xp_StoreError_StoreError : PySem.W.subIn K (.ref C_StoreError) (.ref C_StoreError) = some true)
    (xp_StoreError_InvalidText : PySem.W.subIn K (.ref C_StoreError) (.ref C_InvalidText) = some false)
    (xp_StoreError_NotLawful : PySem.W.subIn K (.ref C_StoreError) (.ref C_NotLawful) = some false)
    (xp_InvalidText_StoreError : PySem.W.subIn K (.ref C_InvalidText) (.ref C_StoreError) = some true)
    (xp_InvalidText_InvalidText : PySem.W.subIn K (.ref C_InvalidText) (.ref C_InvalidText) = some true)
    (xp_InvalidText_NotLawful : PySem.W.subIn K (.ref C_InvalidText) (.ref C_NotLawful) = some false)
    (xp_NotLawful_StoreError : PySem.W.subIn K (.ref C_NotLawful) (.ref C_StoreError) = some true)
    (xp_NotLawful_InvalidText : PySem.W.subIn K (.ref C_NotLawful) (.ref C_InvalidText) = some false)
    (xp_NotLawful_NotLawful : PySem.W.subIn K (.ref C_NotLawful) (.ref C_NotLawful) = some true)
    (xca_InvalidText : PySem.W.findIn K (.ref C_InvalidText) "__class__" = some (some (.builtin "object.__class__")))
    (xcn_InvalidText : PySem.W.specialIn K (.builtin "object.__class__") "__get__" = some (some (.builtin "getset_descriptor.__get__")))
    (xcv_InvalidText : PySem.W.takesIn K (.builtin "object.__class__") = some true)
    (xcm_InvalidText : PySem.W.mroIn K C_InvalidText (.type "object") = some true)
    (kx_InvalidText_InvalidText : PySem.W.kitOne K (.ref C_InvalidText) (.ref C_InvalidText) = some true)
    (kx_InvalidText_NotLawful : PySem.W.kitOne K (.ref C_InvalidText) (.ref C_NotLawful) = some false)
    (xca_NotLawful : PySem.W.findIn K (.ref C_NotLawful) "__class__" = some (some (.builtin "object.__class__")))
    (xcn_NotLawful : PySem.W.specialIn K (.builtin "object.__class__") "__get__" = some (some (.builtin "getset_descriptor.__get__")))
    (xcv_NotLawful : PySem.W.takesIn K (.builtin "object.__class__") = some true)
    (xcm_NotLawful : PySem.W.mroIn K C_NotLawful (.type "object") = some true)
    (kx_NotLawful_InvalidText : PySem.W.kitOne K (.ref C_NotLawful) (.ref C_InvalidText) = some false)
    (kx_NotLawful_NotLawful : PySem.W.kitOne K (.ref C_NotLawful) (.ref C_NotLawful) = some true)
    (oa_Log : PySem.W.findIn K (.ref C_Log) "__class__" = some (some (.builtin "object.__class__")))
    (on_Log : PySem.W.specialIn K (.builtin "object.__class__") "__get__" = some (some (.builtin "getset_descriptor.__get__")))
    (ot_Log : PySem.W.takesIn K (.builtin "object.__class__") = some true)
    (om_Log : PySem.W.mroIn K C_Log (.type "object") = some true)
    (oe_Log : PySem.W.findIn K (.ref C_Log) "__ne__" = some (some (.builtin "object.__ne__")))
    (ki_Log_NoneType : PySem.W.kitOne K (.type "NoneType") (.ref C_Log) = some false)
    (ki_Log_bool : PySem.W.kitOne K (.type "bool") (.ref C_Log) = some false)
    (ki_Log_int : PySem.W.kitOne K (.type "int") (.ref C_Log) = some false)
    (ki_Log_str : PySem.W.kitOne K (.type "str") (.ref C_Log) = some false)
    (ki_Log_tuple : PySem.W.kitOne K (.type "tuple") (.ref C_Log) = some false)
    (ki_Log_list : PySem.W.kitOne K (.type "list") (.ref C_Log) = some false)
    (ki_Log_dict : PySem.W.kitOne K (.type "dict") (.ref C_Log) = some false)
    (z_abs : PySem.W.nsIn K mainGlobals "abs" = some none)
    (z_all : PySem.W.nsIn K mainGlobals "all" = some none)
    (z_enumerate : PySem.W.nsIn K mainGlobals "enumerate" = some none)
    (z_int : PySem.W.nsIn K mainGlobals "int" = some none)
    (z_isinstance : PySem.W.nsIn K mainGlobals "isinstance" = some none)
    (z_len : PySem.W.nsIn K mainGlobals "len" = some none)
    (z_list : PySem.W.nsIn K mainGlobals "list" = some none)
    (z_max : PySem.W.nsIn K mainGlobals "max" = some none)
    (z_min : PySem.W.nsIn K mainGlobals "min" = some none)
    (z_range : PySem.W.nsIn K mainGlobals "range" = some none)
    (z_repr : PySem.W.nsIn K mainGlobals "repr" = some none)
    (z_str : PySem.W.nsIn K mainGlobals "str" = some none)
    (z_sum : PySem.W.nsIn K mainGlobals "sum" = some none)
    (z_tuple : PySem.W.nsIn K mainGlobals "tuple" = some none)
    (z_zip : PySem.W.nsIn K mainGlobals "zip" = some none)
    (gq_DIGITS : PySem.W.nsIn K mainGlobals "DIGITS" = some (some (.str "0123456789" gt_DIGITS)))
    (gq_MANY : PySem.W.nsIn K mainGlobals "MANY" = some (some (.int 1000000000 gt_MANY)))
    (gq_MAX_DAYS : PySem.W.nsIn K mainGlobals "MAX_DAYS" = some (some (.int 60 gt_MAX_DAYS)))
    (gq_MAX_UNITS : PySem.W.nsIn K mainGlobals "MAX_UNITS" = some (some (.int 40 gt_MAX_UNITS)))
    : ∃ (fd : FuncData) (G : Gx), G.K = K ∧ (∀ (s : Shared) (u : Value), BindsTo s fd ⟨[u], []⟩ [("script", u)]) ∧ ∀ base : Heap, K.In base → base.Ns mainGlobals mg → FnG P w K mg base 6 fa fd ["script"] (spV G 1 [] den_law) := by
  have e := hfa.symm.trans (PySem.W.mg_of X Gn a_law)
  cases e
  have F__law_feed := fun_mk (st := s__law_feed) l__law_feed c__law_feed k__law_feed
  have F__law_take := fun_mk (st := s__law_take) l__law_take c__law_take k__law_take
  have F__law_pick := fun_mk (st := s__law_pick) l__law_pick c__law_pick k__law_pick
  have F__law_text := fun_mk (st := s__law_text) l__law_text c__law_text k__law_text
  have F__law_days := fun_mk (st := s__law_days) l__law_days c__law_days k__law_days
  have F__law_changed := fun_mk (st := s__law_changed) l__law_changed c__law_changed k__law_changed
  have F_stocks_of := fun_mk (st := s_stocks_of) l_stocks_of c_stocks_of k_stocks_of
  have F_repeated := fun_mk (st := s_repeated) l_repeated c_repeated k_repeated
  have F_Logx_initx := fun_mk (st := s_Logx_initx) l_Logx_initx c_Logx_initx k_Logx_initx
  have F_read_number := fun_mk (st := s_read_number) l_read_number c_read_number k_read_number
  have F_read_day := fun_mk (st := s_read_day) l_read_day c_read_day k_read_day
  have F_Log_parse := fun_mk (st := s_Log_parse) l_Log_parse c_Log_parse k_Log_parse
  have F_Logx_strx := fun_mk (st := s_Logx_strx) l_Logx_strx c_Logx_strx k_Logx_strx
  have F__law_told := fun_mk (st := s__law_told) l__law_told c__law_told k__law_told
  have F__law_number := fun_mk (st := s__law_number) l__law_number c__law_number k__law_number
  have F__law_stock := fun_mk (st := s__law_stock) l__law_stock c__law_stock k__law_stock
  have F__law_due := fun_mk (st := s__law_due) l__law_due c__law_due k__law_due
  have F_law := fun_mk (st := s_law) l_law c_law k_law
  have kb_Logx_initx_1_ : KBn K _ ["self", "days"] 2 [] (fun us ws => us ++ ws) (fun vs zs => vs ++ zs ++ []) := kb_of (F_Logx_initx.binds (ps := ["self", "days"]) fun _ _ _ _ _ _ us hl => match us, hl with | [_, _], _ => rfl) (by rfl)
  have T : Tx K mg C_Log C_StoreError C_InvalidText C_NotLawful f__law_feed f__law_take f__law_pick f__law_text f__law_days f__law_changed f_stocks_of f_repeated f_Logx_initx f_read_number f_read_day f_Log_parse f_Logx_strx f__law_told f__law_number f__law_stock f__law_due fa p_Log_parse fX_InvalidText fX_NotLawful (PySem.W.fnOf "_law_feed" "_law_feed" (defArgs s__law_feed) (defBody s__law_feed) (defScope s__law_feed) .none kV__law_feed dc__law_feed pm__law_feed an__law_feed cd__law_feed ct__law_feed) (PySem.W.fnOf "_law_take" "_law_take" (defArgs s__law_take) (defBody s__law_take) (defScope s__law_take) .none kV__law_take dc__law_take pm__law_take an__law_take cd__law_take ct__law_take) (PySem.W.fnOf "_law_pick" "_law_pick" (defArgs s__law_pick) (defBody s__law_pick) (defScope s__law_pick) .none kV__law_pick dc__law_pick pm__law_pick an__law_pick cd__law_pick ct__law_pick) (PySem.W.fnOf "_law_text" "_law_text" (defArgs s__law_text) (defBody s__law_text) (defScope s__law_text) .none kV__law_text dc__law_text pm__law_text an__law_text cd__law_text ct__law_text) (PySem.W.fnOf "_law_days" "_law_days" (defArgs s__law_days) (defBody s__law_days) (defScope s__law_days) .none kV__law_days dc__law_days pm__law_days an__law_days cd__law_days ct__law_days) (PySem.W.fnOf "_law_changed" "_law_changed" (defArgs s__law_changed) (defBody s__law_changed) (defScope s__law_changed) .none kV__law_changed dc__law_changed pm__law_changed an__law_changed cd__law_changed ct__law_changed) (PySem.W.fnOf "stocks_of" "stocks_of" (defArgs s_stocks_of) (defBody s_stocks_of) (defScope s_stocks_of) .none kV_stocks_of dc_stocks_of pm_stocks_of an_stocks_of cd_stocks_of ct_stocks_of) (PySem.W.fnOf "repeated" "repeated" (defArgs s_repeated) (defBody s_repeated) (defScope s_repeated) .none kV_repeated dc_repeated pm_repeated an_repeated cd_repeated ct_repeated) (PySem.W.fnOf "__init__" "Log.__init__" (defArgs s_Logx_initx) (defBody s_Logx_initx) (defScope s_Logx_initx) .none kV_Logx_initx dc_Logx_initx pm_Logx_initx an_Logx_initx cd_Logx_initx ct_Logx_initx) (PySem.W.fnOf "read_number" "read_number" (defArgs s_read_number) (defBody s_read_number) (defScope s_read_number) .none kV_read_number dc_read_number pm_read_number an_read_number cd_read_number ct_read_number) (PySem.W.fnOf "read_day" "read_day" (defArgs s_read_day) (defBody s_read_day) (defScope s_read_day) .none kV_read_day dc_read_day pm_read_day an_read_day cd_read_day ct_read_day) (PySem.W.fnOf "parse" "Log.parse" (defArgs s_Log_parse) (defBody s_Log_parse) (defScope s_Log_parse) .none kV_Log_parse dc_Log_parse pm_Log_parse an_Log_parse cd_Log_parse ct_Log_parse) (PySem.W.fnOf "__str__" "Log.__str__" (defArgs s_Logx_strx) (defBody s_Logx_strx) (defScope s_Logx_strx) .none kV_Logx_strx dc_Logx_strx pm_Logx_strx an_Logx_strx cd_Logx_strx ct_Logx_strx) (PySem.W.fnOf "_law_told" "_law_told" (defArgs s__law_told) (defBody s__law_told) (defScope s__law_told) .none kV__law_told dc__law_told pm__law_told an__law_told cd__law_told ct__law_told) (PySem.W.fnOf "_law_number" "_law_number" (defArgs s__law_number) (defBody s__law_number) (defScope s__law_number) .none kV__law_number dc__law_number pm__law_number an__law_number cd__law_number ct__law_number) (PySem.W.fnOf "_law_stock" "_law_stock" (defArgs s__law_stock) (defBody s__law_stock) (defScope s__law_stock) .none kV__law_stock dc__law_stock pm__law_stock an__law_stock cd__law_stock ct__law_stock) (PySem.W.fnOf "_law_due" "_law_due" (defArgs s__law_due) (defBody s__law_due) (defScope s__law_due) .none kV__law_due dc__law_due pm__law_due an__law_due cd__law_due ct__law_due) (PySem.W.fnOf "law" "law" (defArgs s_law) (defBody s_law) (defScope s_law) .none kV_law dc_law pm_law an_law cd_law ct_law) [] _ := {
    F__law_feed := .of F__law_feed
    m__law_feed := PySem.W.mg_of X Gn a__law_feed
    k__law_feed := k__law_feed
    b__law_feed := F__law_feed.binds (ps := ["script", "k"]) fun _ _ _ _ _ _ us hl => match us, hl with | [_, _], _ => rfl
    F__law_take := .of F__law_take
    m__law_take := PySem.W.mg_of X Gn a__law_take
    k__law_take := k__law_take
    b__law_take := F__law_take.binds (ps := ["feed", "many"]) fun _ _ _ _ _ _ us hl => match us, hl with | [_, _], _ => rfl
    F__law_pick := .of F__law_pick
    m__law_pick := PySem.W.mg_of X Gn a__law_pick
    k__law_pick := k__law_pick
    b__law_pick := F__law_pick.binds (ps := ["feed", "some"]) fun _ _ _ _ _ _ us hl => match us, hl with | [_, _], _ => rfl
    F__law_text := .of F__law_text
    m__law_text := PySem.W.mg_of X Gn a__law_text
    k__law_text := k__law_text
    b__law_text := F__law_text.binds (ps := ["days"]) fun _ _ _ _ _ _ us hl => match us, hl with | [_], _ => rfl
    F__law_days := .of F__law_days
    m__law_days := PySem.W.mg_of X Gn a__law_days
    k__law_days := k__law_days
    b__law_days := F__law_days.binds (ps := ["feed", "days", "units"]) fun _ _ _ _ _ _ us hl => match us, hl with | [_, _, _], _ => rfl
    F__law_changed := .of F__law_changed
    m__law_changed := PySem.W.mg_of X Gn a__law_changed
    k__law_changed := k__law_changed
    b__law_changed := F__law_changed.binds (ps := ["feed", "text"]) fun _ _ _ _ _ _ us hl => match us, hl with | [_, _], _ => rfl
    F_stocks_of := .of F_stocks_of
    m_stocks_of := PySem.W.mg_of X Gn a_stocks_of
    k_stocks_of := k_stocks_of
    b_stocks_of := F_stocks_of.binds (ps := ["days"]) fun _ _ _ _ _ _ us hl => match us, hl with | [_], _ => rfl
    F_repeated := .of F_repeated
    m_repeated := PySem.W.mg_of X Gn a_repeated
    k_repeated := k_repeated
    b_repeated := F_repeated.binds (ps := ["days", "numbers"]) fun _ _ _ _ _ _ us hl => match us, hl with | [_, _], _ => rfl
    F_Logx_initx := .of F_Logx_initx
    b_Logx_initx := F_Logx_initx.binds (ps := ["self", "days"]) fun _ _ _ _ _ _ us hl => match us, hl with | [_, _], _ => rfl
    F_read_number := .of F_read_number
    m_read_number := PySem.W.mg_of X Gn a_read_number
    k_read_number := k_read_number
    b_read_number := F_read_number.binds (ps := ["word"]) fun _ _ _ _ _ _ us hl => match us, hl with | [_], _ => rfl
    F_read_day := .of F_read_day
    m_read_day := PySem.W.mg_of X Gn a_read_day
    k_read_day := k_read_day
    b_read_day := F_read_day.binds (ps := ["row"]) fun _ _ _ _ _ _ us hl => match us, hl with | [_], _ => rfl
    F_Log_parse := .of F_Log_parse
    b_Log_parse := F_Log_parse.binds (ps := ["cls", "text"]) fun _ _ _ _ _ _ us hl => match us, hl with | [_, _], _ => rfl
    cmt_Log_parse := ⟨a_Log_parse, ⟨_, pc_Log_parse⟩, pf_Log_parse⟩
    cr_Log := ⟨cr1_Log_parse, cr2_Log_parse⟩
    F_Logx_strx := .of F_Logx_strx
    b_Logx_strx := F_Logx_strx.binds (ps := ["self"]) fun _ _ _ _ _ _ us hl => match us, hl with | [_], _ => rfl
    mt_Logx_strx := ⟨a_Logx_strx, i_Logx_strx, k_Logx_strx⟩
    F__law_told := .of F__law_told
    m__law_told := PySem.W.mg_of X Gn a__law_told
    k__law_told := k__law_told
    b__law_told := F__law_told.binds (ps := ["text"]) fun _ _ _ _ _ _ us hl => match us, hl with | [_], _ => rfl
    F__law_number := .of F__law_number
    m__law_number := PySem.W.mg_of X Gn a__law_number
    k__law_number := k__law_number
    b__law_number := F__law_number.binds (ps := ["word"]) fun _ _ _ _ _ _ us hl => match us, hl with | [_], _ => rfl
    F__law_stock := .of F__law_stock
    m__law_stock := PySem.W.mg_of X Gn a__law_stock
    k__law_stock := k__law_stock
    b__law_stock := F__law_stock.binds (ps := ["days", "day"]) fun _ _ _ _ _ _ us hl => match us, hl with | [_, _], _ => rfl
    F__law_due := .of F__law_due
    m__law_due := PySem.W.mg_of X Gn a__law_due
    k__law_due := k__law_due
    b__law_due := F__law_due.binds (ps := ["text"]) fun _ _ _ _ _ _ us hl => match us, hl with | [_], _ => rfl
    F_law := .of F_law
    m_law := PySem.W.mg_of X Gn a_law
    k_law := k_law
    b_law := F_law.binds (ps := ["script"]) fun _ _ _ _ _ _ us hl => match us, hl with | [_], _ => rfl
    cf_Log := ⟨⟨cg_Log, ch_Log, co_Log, cs_Log⟩, by decide +kernel, fun f hf => by
      simp only [cnL, List.mem_cons, List.not_mem_nil, or_false] at hf
      rcases hf with rfl | rfl | rfl | rfl
      · exact na_Log_days
      · exact na_Log_stocks
      · exact na_Log_days_in
      · exact na_Log_days_out, by decide +kernel⟩
    mk_Log := ⟨cm_Log, a_Logx_initx, i_Logx_initx, ck_Log⟩
    mC_Log := PySem.W.mg_of X Gn aC_Log
    xq_StoreError := xq_StoreError
    xg_StoreError := PySem.W.mg_of X Gn aC_StoreError
    xk_StoreError := xk_StoreError
    xe_StoreError := xe_StoreError
    xy_StoreError := xy_StoreError
    xt_StoreError_StoreError := L2N.exm_of xe_StoreError xs_StoreError xy_StoreError xp_StoreError_StoreError
    xt_StoreError_InvalidText := L2N.exm_of xe_InvalidText xs_InvalidText xy_InvalidText xp_StoreError_InvalidText
    xt_StoreError_NotLawful := L2N.exm_of xe_NotLawful xs_NotLawful xy_NotLawful xp_StoreError_NotLawful
    x_InvalidText := { gC := PySem.W.mg_of X Gn aC_InvalidText, cls := ⟨xnm_InvalidText, xqn_InvalidText, xN_InvalidText, xbs_InvalidText, _, xsn_InvalidText, xsub_InvalidText, xab_InvalidText, xcol_InvalidText, xdd_InvalidText, xm0_InvalidText, xm1_InvalidText, xm2_InvalidText, xm3_InvalidText, xm5_InvalidText, xL_InvalidText, (show PySem.HandSPX.refsVE [.type "ValueError", .type "Exception", .type "BaseException", .type "object"] = true from by decide +kernel)⟩, sa := xsa_InvalidText, ga := xga_InvalidText, gg := xgg_InvalidText, noN := xnb_InvalidText, iC := xi_InvalidText, tC := xt_InvalidText, kC := xk_InvalidText, exC := xe_InvalidText, tyC := xy_InvalidText, hdC := xh_InvalidText, te := L2N.exm_of xe_InvalidText xs_InvalidText xy_InvalidText xp_InvalidText_InvalidText, fn := ⟨_, _, _, _, _, _, _, _, _, _, _, _, _, _, xl_InvalidText, xc_InvalidText⟩ }
    xt_InvalidText_StoreError := L2N.exm_of xe_StoreError xs_StoreError xy_StoreError xp_InvalidText_StoreError
    xt_InvalidText_InvalidText := L2N.exm_of xe_InvalidText xs_InvalidText xy_InvalidText xp_InvalidText_InvalidText
    xt_InvalidText_NotLawful := L2N.exm_of xe_NotLawful xs_NotLawful xy_NotLawful xp_InvalidText_NotLawful
    x_NotLawful := { gC := PySem.W.mg_of X Gn aC_NotLawful, cls := ⟨xnm_NotLawful, xqn_NotLawful, xN_NotLawful, xbs_NotLawful, _, xsn_NotLawful, xsub_NotLawful, xab_NotLawful, xcol_NotLawful, xdd_NotLawful, xm0_NotLawful, xm1_NotLawful, xm2_NotLawful, xm3_NotLawful, xm5_NotLawful, xL_NotLawful, (show PySem.HandSPX.refsVE [.type "ValueError", .type "Exception", .type "BaseException", .type "object"] = true from by decide +kernel)⟩, sa := xsa_NotLawful, ga := xga_NotLawful, gg := xgg_NotLawful, noN := xnb_NotLawful, iC := xi_NotLawful, tC := xt_NotLawful, kC := xk_NotLawful, exC := xe_NotLawful, tyC := xy_NotLawful, hdC := xh_NotLawful, te := L2N.exm_of xe_NotLawful xs_NotLawful xy_NotLawful xp_NotLawful_NotLawful, fn := ⟨_, _, _, _, _, _, _, _, _, _, _, _, _, _, xl_NotLawful, xc_NotLawful⟩ }
    xt_NotLawful_StoreError := L2N.exm_of xe_StoreError xs_StoreError xy_StoreError xp_NotLawful_StoreError
    xt_NotLawful_InvalidText := L2N.exm_of xe_InvalidText xs_InvalidText xy_InvalidText xp_NotLawful_InvalidText
    xt_NotLawful_NotLawful := L2N.exm_of xe_NotLawful xs_NotLawful xy_NotLawful xp_NotLawful_NotLawful
    xc_InvalidText := ⟨xga_InvalidText, xgg_InvalidText, xe_InvalidText, xh_InvalidText, xca_InvalidText, xcn_InvalidText, xcv_InvalidText, xcm_InvalidText⟩
    kx_InvalidText_InvalidText := kx_InvalidText_InvalidText
    kx_InvalidText_NotLawful := kx_InvalidText_NotLawful
    xc_NotLawful := ⟨xga_NotLawful, xgg_NotLawful, xe_NotLawful, xh_NotLawful, xca_NotLawful, xcn_NotLawful, xcv_NotLawful, xcm_NotLawful⟩
    kx_NotLawful_InvalidText := kx_NotLawful_InvalidText
    kx_NotLawful_NotLawful := kx_NotLawful_NotLawful
    kb_Logx_initx_1_ := kb_Logx_initx_1_
    kd_Logx_initx_1_ := fun _ _ _ => by simp only [Reps]
    oc_Log := ⟨oa_Log, on_Log, ot_Log, om_Log, oe_Log⟩
    ki_Log := fun t => by cases t <;> assumption
    z_abs := PySem.W.mg_none_of X Gn z_abs
    z_all := PySem.W.mg_none_of X Gn z_all
    z_enumerate := PySem.W.mg_none_of X Gn z_enumerate
    z_int := PySem.W.mg_none_of X Gn z_int
    z_isinstance := PySem.W.mg_none_of X Gn z_isinstance
    z_len := PySem.W.mg_none_of X Gn z_len
    z_list := PySem.W.mg_none_of X Gn z_list
    z_max := PySem.W.mg_none_of X Gn z_max
    z_min := PySem.W.mg_none_of X Gn z_min
    z_range := PySem.W.mg_none_of X Gn z_range
    z_repr := PySem.W.mg_none_of X Gn z_repr
    z_str := PySem.W.mg_none_of X Gn z_str
    z_sum := PySem.W.mg_none_of X Gn z_sum
    z_tuple := PySem.W.mg_none_of X Gn z_tuple
    z_zip := PySem.W.mg_none_of X Gn z_zip
    gc_DIGITS := ⟨_, PySem.W.mg_of X Gn gq_DIGITS, ⟨_, rfl⟩⟩
    gc_MANY := ⟨_, PySem.W.mg_of X Gn gq_MANY, ⟨_, rfl⟩⟩
    gc_MAX_DAYS := ⟨_, PySem.W.mg_of X Gn gq_MAX_DAYS, ⟨_, rfl⟩⟩
    gc_MAX_UNITS := ⟨_, PySem.W.mg_of X Gn gq_MAX_UNITS, ⟨_, rfl⟩⟩
  }
  exact ⟨_, gx K C_Log C_StoreError C_InvalidText C_NotLawful w, rfl, fun s v => .of_eq rfl, fun base _ _ => ok_law T⟩
end
end LW

namespace LW
open PySem L2 PV
local macro_rules | `(tactic| walk_at "set") => `(tactic| (repeat (first | with_reducible exact set_z | with_reducible apply set_s | exact set_z | apply set_s)))
local macro_rules | `(tactic| walk_at "is") => `(tactic| (first | exact Is.v | exact Is.loc rfl))
local macro_rules | `(tactic| walk_at "lt") => `(tactic| first | exact ltL rfl | omega | (simp only [List.length_cons, List.length_nil]; omega))
local macro_rules | `(tactic| walk_at "sz") => `(tactic| first | omega | (simp only [sizeLine_eq, List.length_append, List.length_cons, List.length_nil, List.length_map, List.length_replicate, List.length_reverse] at *; omega))
local macro_rules | `(tactic| walk_at "w1") => `(tactic| ((with_reducible apply And.intro); (focus (first | walk_at "sz" | exact rfl))))
local macro_rules | `(tactic| walk_at "w1") => `(tactic| ((with_reducible apply and3); (focus (exact rfl)); (focus (walk_at "lt")); (focus (walk_at "set"))))
local macro_rules | `(tactic| walk_at "w1") => `(tactic| ((with_reducible refine FzD.Bx ?_ ?_); (focus (exact flat_int))))
local macro_rules | `(tactic| walk_at "w1") => `(tactic| (with_reducible refine FzD.O ?_))
local macro_rules | `(tactic| walk_at "w1") => `(tactic| (with_reducible refine FzD.F ?_))
local macro_rules | `(tactic| walk_at "w1") => `(tactic| (with_reducible refine NotW.b ?_))
local macro_rules | `(tactic| walk_at "w1") => `(tactic| (with_reducible refine NotW.d ?_))
local macro_rules | `(tactic| walk_at "w1") => `(tactic| (with_reducible refine BoW.ff ?_))
local macro_rules | `(tactic| walk_at "w1") => `(tactic| (with_reducible refine BoW.tt ?_))
local macro_rules | `(tactic| walk_at "w1") => `(tactic| (with_reducible refine TW.tp ?_))
local macro_rules | `(tactic| walk_at "w1") => `(tactic| ((with_reducible apply par1); (focus (repeat (first | with_reducible exact st0 | (apply st1; (focus (exact rfl)); (focus (walk_at "lt")); (focus (walk_at "set"))))))))
local macro_rules | `(tactic| walk_at "w1") => `(tactic| (with_reducible refine TW.tup2F ?_))
local macro_rules | `(tactic| walk_at "w1") => `(tactic| (with_reducible refine TW.tup2B ?_))
local macro_rules | `(tactic| walk_at "w1") => `(tactic| (with_reducible refine TsW.cons ?_))
local macro_rules | `(tactic| walk_at "w1") => `(tactic| (with_reducible refine TsW.nil ?_))
local macro_rules | `(tactic| walk_at "w1") => `(tactic| ((with_reducible apply TW.n); (focus (exact rfl)); (focus (walk_at "lt")); (focus (walk_at "set"))))
local macro_rules | `(tactic| walk_at "w1") => `(tactic| ((with_reducible refine R1W.go ?_ ?_); (focus omega)))
local macro_rules | `(tactic| walk_at "w1") => `(tactic| (with_reducible refine ItsW.tupB ?_))
local macro_rules | `(tactic| walk_at "w1") => `(tactic| (with_reducible refine ItsW.tupF ?_))
local macro_rules | `(tactic| walk_at "w1") => `(tactic| (with_reducible refine ItsW.lstO ?_))
local macro_rules | `(tactic| walk_at "w1") => `(tactic| (with_reducible refine ItsW.lstB ?_))
local macro_rules | `(tactic| walk_at "w1") => `(tactic| (with_reducible refine ItsW.lstF ?_))
local macro_rules | `(tactic| walk_at "w1") => `(tactic| (with_reducible refine IW.r1 ?_))
local macro_rules | `(tactic| walk_at "w1") => `(tactic| (with_reducible refine IW.seq ?_))
local macro_rules | `(tactic| walk_at "w1") => `(tactic| ((with_reducible apply PtW.io); (focus (walk_at "lt")); (focus (walk_at "set"))))
local macro_rules | `(tactic| walk_at "w1") => `(tactic| (with_reducible refine PtW.f ?_))
local macro_rules | `(tactic| walk_at "w1") => `(tactic| (with_reducible refine PtW.b ?_))
local macro_rules | `(tactic| walk_at "w1") => `(tactic| (with_reducible refine PtW.nil ?_))
local macro_rules | `(tactic| walk_at "w1") => `(tactic| (with_reducible refine PaW.fF ?_))
local macro_rules | `(tactic| walk_at "w1") => `(tactic| ((with_reducible apply PaW.bOb); (focus (exact rfl)); (focus (repeat (first | exact mapD_n | apply mapD_c)))))
local macro_rules | `(tactic| walk_at "w1") => `(tactic| ((with_reducible apply PaW.b); (focus (walk_at "is"))))
local macro_rules | `(tactic| walk_at "w1") => `(tactic| (with_reducible refine PaW.io ?_))
local macro_rules | `(tactic| walk_at "w1") => `(tactic| (with_reducible refine PaW.nil ?_))
local macro_rules | `(tactic| walk_at "w1") => `(tactic| ((with_reducible apply PuW.io); (focus (exact rfl)); (focus (walk_at "set"))))
local macro_rules | `(tactic| walk_at "w1") => `(tactic| (with_reducible refine PuW.f ?_))
local macro_rules | `(tactic| walk_at "w1") => `(tactic| (with_reducible refine PuW.b ?_))
local macro_rules | `(tactic| walk_at "w1") => `(tactic| (with_reducible refine PuW.nil ?_))
local macro_rules | `(tactic| walk_at "w1") => `(tactic| (with_reducible refine CaW.go ?_))
local macro_rules | `(tactic| walk_at "w1") => `(tactic| ((with_reducible refine UnW.xOb ?_ ?_); (focus (repeat (first | exact unBs_nilE | refine unBs_F ?_ | refine unBs_O ?_)))))
local macro_rules | `(tactic| walk_at "w1") => `(tactic| ((with_reducible refine UnW.xB ?_ ?_); (focus (exact flat_str))))
local macro_rules | `(tactic| walk_at "w1") => `(tactic| ((with_reducible refine UnW.xB ?_ ?_); (focus (exact flat_int))))
local macro_rules | `(tactic| walk_at "w1") => `(tactic| (with_reducible refine UnW.xO ?_))
local macro_rules | `(tactic| walk_at "w1") => `(tactic| (with_reducible refine UnW.xF ?_))
local macro_rules | `(tactic| walk_at "w1") => `(tactic| ((with_reducible apply GiW.cons); (focus (exact rfl)); (focus (walk_at "set"))))
local macro_rules | `(tactic| walk_at "w1") => `(tactic| (with_reducible refine GiW.nil ?_))
local macro_rules | `(tactic| walk_at "w1") => `(tactic| (with_reducible refine EW.pow ?_))
local macro_rules | `(tactic| walk_at "w1") => `(tactic| (with_reducible refine EW.abs ?_))
local macro_rules | `(tactic| walk_at "w1") => `(tactic| ((with_reducible apply len_scr); (focus (walk_at "is"))))
local macro_rules | `(tactic| walk_at "w1") => `(tactic| ((with_reducible apply len_tup); (focus (walk_at "is"))))
local macro_rules | `(tactic| walk_at "w1") => `(tactic| ((with_reducible apply len_lst); (focus (walk_at "is"))))
local macro_rules | `(tactic| walk_at "w1") => `(tactic| ((with_reducible apply SW.aug); (focus (exact rfl))))
local macro_rules | `(tactic| walk_at "w1") => `(tactic| ((with_reducible apply SW.faug); (focus (exact rfl)); (focus (exact rfl))))
local macro_rules | `(tactic| walk_at "w1") => `(tactic| ((with_reducible apply fst4); (focus (exact rfl)); (focus (walk_at "lt")); (focus (repeat (first | exact setAt_z | exact setAt_n | apply setAt_s))); (focus (walk_at "set"))))
local macro_rules | `(tactic| walk_at "w1") => `(tactic| ((with_reducible apply lm5); (focus (exact rfl)); (focus (exact rfl)); (focus (walk_at "sz")); (focus (walk_at "set"))))
local macro_rules | `(tactic| walk_at "w1") => `(tactic| ((with_reducible apply EW.lm); (focus (exact rfl))))
local macro_rules | `(tactic| walk_at "w1") => `(tactic| ((with_reducible apply sub5); (focus (exact rfl)); (focus (first | exact ix0 rfl | exact ix1 rfl)); (focus (walk_at "set")); (focus (walk_at "set"))))
local macro_rules | `(tactic| walk_at "w1") => `(tactic| ((with_reducible apply I1W.go); (focus (walk_at "is"))))
local macro_rules | `(tactic| walk_at "w1") => `(tactic| ((with_reducible apply TW.sub); (focus (exact rfl))))
local macro_rules | `(tactic| walk_at "w1") => `(tactic| ((with_reducible apply IdxW.tF); (focus (walk_at "is")); (focus (walk_at "is")); (focus (exact rfl))))
local macro_rules | `(tactic| walk_at "w1") => `(tactic| ((with_reducible apply IdxW.tB); (focus (walk_at "is")); (focus (walk_at "is")); (focus (exact rfl))))
local macro_rules | `(tactic| walk_at "w1") => `(tactic| ((with_reducible apply IdxW.lO); (focus (walk_at "is")); (focus (walk_at "is")); (focus (exact rfl))))
local macro_rules | `(tactic| walk_at "w1") => `(tactic| ((with_reducible apply IdxW.lF); (focus (walk_at "is")); (focus (walk_at "is")); (focus (exact rfl))))
local macro_rules | `(tactic| walk_at "w1") => `(tactic| ((with_reducible apply IdxW.lB); (focus (walk_at "is")); (focus (walk_at "is")); (focus (exact rfl))))
local macro_rules | `(tactic| walk_at "w1") => `(tactic| ((with_reducible apply FldW.insF); (focus (exact rfl))))
local macro_rules | `(tactic| walk_at "w1") => `(tactic| ((with_reducible apply FldW.insB); (focus (exact rfl))))
local macro_rules | `(tactic| walk_at "w1") => `(tactic| ((with_reducible apply FldW.ob); (focus (exact rfl)); (focus (exact rfl))))
local macro_rules | `(tactic| walk_at "w1") => `(tactic| ((with_reducible apply MulW.ii); (focus (walk_at "is")); (focus (walk_at "is")); (focus omega)))
local macro_rules | `(tactic| walk_at "w1") => `(tactic| ((with_reducible apply AddW.ii); (focus (walk_at "is")); (focus (walk_at "is"))))
local macro_rules | `(tactic| walk_at "w1") => `(tactic| ((with_reducible apply IIW.go); (focus (walk_at "is")); (focus (walk_at "is"))))
local macro_rules | `(tactic| walk_at "w1") => `(tactic| (with_reducible refine FzsW.O ?_))
local macro_rules | `(tactic| walk_at "w1") => `(tactic| (with_reducible refine FzsW.F ?_))
local macro_rules | `(tactic| walk_at "w1") => `(tactic| (with_reducible refine FzsW.nil ?_))
local macro_rules | `(tactic| walk_at "w1") => `(tactic| (with_reducible refine AW.cons ?_))
local macro_rules | `(tactic| walk_at "w1") => `(tactic| (with_reducible refine AW.nil ?_))
local macro_rules | `(tactic| walk_at "w1") => `(tactic| ((with_reducible apply MvW.loc); (focus (exact rfl)); (focus (walk_at "set"))))
local macro_rules | `(tactic| walk_at "w1") => `(tactic| (with_reducible refine MvW.v ?_))
local macro_rules | `(tactic| walk_at "w1") => `(tactic| ((with_reducible apply FzW.loc); (focus (exact rfl)); (focus (walk_at "set"))))
local macro_rules | `(tactic| walk_at "w1") => `(tactic| ((with_reducible refine FzW.Bx ?_ ?_); (focus (exact flat_str))))
local macro_rules | `(tactic| walk_at "w1") => `(tactic| ((with_reducible refine FzW.Bx ?_ ?_); (focus (exact flat_int))))
local macro_rules | `(tactic| walk_at "w1") => `(tactic| (with_reducible refine FzW.ob ?_))
local macro_rules | `(tactic| walk_at "w1") => `(tactic| (with_reducible refine FzW.O ?_))
local macro_rules | `(tactic| walk_at "w1") => `(tactic| (with_reducible refine FzW.F ?_))
local macro_rules | `(tactic| walk_at "w1") => `(tactic| (with_reducible refine EW.fz ?_))
local macro_rules | `(tactic| walk_at "w1") => `(tactic| (with_reducible refine EW.mv ?_))
local macro_rules | `(tactic| walk_at "w1") => `(tactic| (with_reducible refine EW.tuple ?_))
local macro_rules | `(tactic| walk_at "w1") => `(tactic| (with_reducible refine EW.list ?_))
local macro_rules | `(tactic| walk_at "w1") => `(tactic| (with_reducible refine EW.sum ?_))
local macro_rules | `(tactic| walk_at "w1") => `(tactic| (with_reducible refine EW.ne ?_))
local macro_rules | `(tactic| walk_at "w1") => `(tactic| (with_reducible refine EW.eq ?_))
local macro_rules | `(tactic| walk_at "w1") => `(tactic| (with_reducible refine asI4 ?_))
local macro_rules | `(tactic| walk_at "w1") => `(tactic| (with_reducible refine OW.someI ?_))
local macro_rules | `(tactic| walk_at "w1") => `(tactic| (with_reducible refine OW.none ?_))
local macro_rules | `(tactic| walk_at "w1") => `(tactic| (with_reducible refine EW.sl ?_))
local macro_rules | `(tactic| walk_at "w1") => `(tactic| ((with_reducible apply ExtW.F); (focus (exact rfl)); (focus (walk_at "sz")); (focus (walk_at "set"))))
local macro_rules | `(tactic| walk_at "w1") => `(tactic| (with_reducible refine IW.zip ?_))
local macro_rules | `(tactic| walk_at "w1") => `(tactic| ((with_reducible apply SW.augSub); (focus (exact rfl))))
local macro_rules | `(tactic| walk_at "w1") => `(tactic| ((with_reducible apply SW.ext); (focus (exact rfl))))
local macro_rules | `(tactic| walk_at "w1") => `(tactic| (with_reducible refine EW.neg ?_))
local macro_rules | `(tactic| walk_at "w1") => `(tactic| (with_reducible refine EW.tupR ?_))
local macro_rules | `(tactic| walk_at "w1") => `(tactic| (with_reducible refine EW.sumA ?_))
local macro_rules | `(tactic| walk_at "w1") => `(tactic| (with_reducible refine EW.isN ?_))
local macro_rules | `(tactic| walk_at "w1") => `(tactic| (with_reducible refine EW.comp1 ?_))
local macro_rules | `(tactic| walk_at "w1") => `(tactic| (with_reducible refine EW.lst ?_))
local macro_rules | `(tactic| walk_at "w1") => `(tactic| (with_reducible refine EW.tup ?_))
local macro_rules | `(tactic| walk_at "w1") => `(tactic| (with_reducible refine EW.not ?_))
local macro_rules | `(tactic| walk_at "w1") => `(tactic| (with_reducible refine EW.or ?_))
local macro_rules | `(tactic| walk_at "w1") => `(tactic| (with_reducible refine EW.and ?_))
local macro_rules | `(tactic| walk_at "w1") => `(tactic| (with_reducible refine EW.ifx ?_))
local macro_rules | `(tactic| walk_at "w1") => `(tactic| (with_reducible refine EW.fld ?_))
local macro_rules | `(tactic| walk_at "w1") => `(tactic| (with_reducible refine EW.make ?_))
local macro_rules | `(tactic| walk_at "w1") => `(tactic| (with_reducible refine EW.call ?_))
local macro_rules | `(tactic| walk_at "w1") => `(tactic| (with_reducible refine EW.len ?_))
local macro_rules | `(tactic| walk_at "w1") => `(tactic| (with_reducible refine EW.min2 ?_))
local macro_rules | `(tactic| walk_at "w1") => `(tactic| (with_reducible refine EW.max2 ?_))
local macro_rules | `(tactic| walk_at "w1") => `(tactic| (with_reducible refine EW.idx ?_))
local macro_rules | `(tactic| walk_at "w1") => `(tactic| (with_reducible refine EW.mul ?_))
local macro_rules | `(tactic| walk_at "w1") => `(tactic| (with_reducible refine EW.add ?_))
local macro_rules | `(tactic| walk_at "w1") => `(tactic| (with_reducible refine EW.sub ?_))
local macro_rules | `(tactic| walk_at "w1") => `(tactic| (with_reducible refine EW.div ?_))
local macro_rules | `(tactic| walk_at "w1") => `(tactic| (with_reducible refine EW.mod ?_))
local macro_rules | `(tactic| walk_at "w1") => `(tactic| (with_reducible refine EW.lt ?_))
local macro_rules | `(tactic| walk_at "w1") => `(tactic| (with_reducible refine EW.gt ?_))
local macro_rules | `(tactic| walk_at "w1") => `(tactic| (with_reducible refine EW.strO ?_))
local macro_rules | `(tactic| walk_at "w1") => `(tactic| (with_reducible refine EW.join ?_))
local macro_rules | `(tactic| walk_at "w1") => `(tactic| (with_reducible refine EW.all ?_))
local macro_rules | `(tactic| walk_at "w1") => `(tactic| (with_reducible refine EW.strI ?_))
local macro_rules | `(tactic| walk_at "w1") => `(tactic| (with_reducible refine EW.nm ?_))
local macro_rules | `(tactic| walk_at "w1") => `(tactic| (with_reducible refine EW.isB ?_))
local macro_rules | `(tactic| walk_at "w1") => `(tactic| (with_reducible refine EW.repr2 ?_))
local macro_rules | `(tactic| walk_at "w1") => `(tactic| ((with_reducible apply TW.subK); (focus (exact rfl))))
local macro_rules | `(tactic| walk_at "w1") => `(tactic| (with_reducible refine EW.inE ?_))
local macro_rules | `(tactic| walk_at "w1") => `(tactic| (with_reducible refine IW.enA ?_))
local macro_rules | `(tactic| walk_at "w1") => `(tactic| ((with_reducible apply TW.subX); (focus (exact rfl))))
local macro_rules | `(tactic| walk_at "w1") => `(tactic| (with_reducible refine SW.par ?_))
local macro_rules | `(tactic| walk_at "w1") => `(tactic| (with_reducible refine SW.fst ?_))
local macro_rules | `(tactic| walk_at "w1") => `(tactic| (with_reducible refine SW.for ?_))
local macro_rules | `(tactic| walk_at "w1") => `(tactic| (with_reducible refine SW.expr ?_))
local macro_rules | `(tactic| walk_at "w1") => `(tactic| (with_reducible refine SW.nil ?_))
local macro_rules | `(tactic| walk_at "w1") => `(tactic| (with_reducible refine SW.asg ?_))
local macro_rules | `(tactic| walk_at "w1") => `(tactic| (with_reducible refine SW.ret ?_))
local macro_rules | `(tactic| walk_at "w1") => `(tactic| (with_reducible refine SW.ite ?_))
local macro_rules | `(tactic| walk_at "w1") => `(tactic| ((with_reducible refine SW.set ?_)))
local macro_rules | `(tactic| walk_at "w1") => `(tactic| (with_reducible refine SW.seq ?_))
local macro_rules | `(tactic| walk_at "w1") => `(tactic| (with_reducible refine VarW.xOb ?_))
local macro_rules | `(tactic| walk_at "w1") => `(tactic| (with_reducible refine VarW.xO ?_))
local macro_rules | `(tactic| walk_at "w1") => `(tactic| (with_reducible refine VarW.xB ?_))
local macro_rules | `(tactic| walk_at "w1") => `(tactic| (with_reducible refine VarW.xF ?_))
local macro_rules | `(tactic| walk_at "w1") => `(tactic| ((with_reducible apply EW.var); (focus (exact rfl))))
local macro_rules | `(tactic| walk_at "w1") => `(tactic| (with_reducible refine EW.tr ?_))
local macro_rules | `(tactic| walk_at "w1") => `(tactic| (with_reducible refine EW.n ?_))
local macro_rules | `(tactic| walk_at "w1") => `(tactic| (with_reducible refine EW.z ?_))
local macro_rules | `(tactic| walk_at "w1") => `(tactic| (with_reducible refine EW.c ?_))
local macro_rules | `(tactic| walk_at "wp") => `(tactic| repeat (walk_at "w1"))
local macro_rules | `(tactic| walk_at "cp") => `(tactic| (refine ⟨_, (by walk_at "set"), ?_⟩; walk_at "wp"; all_goals (first | exact ⟨rfl, rfl⟩ | exact rfl)))

/-! logs -/
abbrev pD (p : Nat × Nat) : D := .tup [.int (p.1 : Int), .int (p.2 : Int)]
/-- the stocks at the ends of days -/
def stk (s : Int) : List (Nat × Nat) → List Int
  | [] => []
  | p :: ps => (s + p.1 - p.2) :: stk (s + p.1 - p.2) ps
def lastS (s : Int) : List (Nat × Nat) → Int
  | [] => s
  | p :: ps => lastS (s + p.1 - p.2) ps
def Lawful (s : Int) (ps : List (Nat × Nat)) : Prop := ∀ x ∈ stk s ps, 0 ≤ x
theorem stk_app : ∀ (ps : List (Nat × Nat)) (s : Int) (p : Nat × Nat), stk s (ps ++ [p]) = stk s ps ++ [lastS s ps + p.1 - p.2]
  | [], s, p => rfl
  | q :: ps, s, p => by simp only [List.cons_append, stk, lastS, stk_app ps]
theorem lastS_app : ∀ (ps : List (Nat × Nat)) (s : Int) (p : Nat × Nat), lastS s (ps ++ [p]) = lastS s ps + p.1 - p.2
  | [], s, p => rfl
  | q :: ps, s, p => by simp only [List.cons_append, lastS, lastS_app ps]
theorem stk_len : ∀ (ps : List (Nat × Nat)) (s : Int), (stk s ps).length = ps.length
  | [], s => rfl
  | q :: ps, s => by simp only [stk, List.length_cons, stk_len ps]
theorem stk_last : ∀ (ps : List (Nat × Nat)) (s : Int), ps ≠ [] → (stk s ps)[ps.length - 1]? = some (lastS s ps)
  | [], s, h => absurd rfl h
  | [p], s, h => rfl
  | p :: q :: ps, s, h => by
    have := stk_last (q :: ps) (s + p.1 - p.2) (by simp)
    simp only [List.length_cons, Nat.add_sub_cancel] at this ⊢
    simp only [stk, lastS, List.getElem?_cons_succ] at this ⊢
    exact this
theorem atI_neg1 {α : Type} {xs : List α} {x : α} (h : xs[xs.length - 1]? = some x) : atI xs (-1) = some x := by
  have hl := (List.getElem?_eq_some_iff.mp h).1
  unfold atI ixN
  rw [if_neg (by omega), if_pos (by omega)]
  show xs[(-1 + (xs.length : Int)).toNat]? = some x
  rw [show (-1 + (xs.length : Int)).toNat = xs.length - 1 by omega]
  exact h
theorem ix_neg1 {n : Nat} (h : 0 < n) : ixN n (-1) = some (n - 1) := by
  unfold ixN
  rw [if_neg (by omega), if_pos (by omega), show (-1 + (n : Int)).toNat = n - 1 by omega]
theorem enum_map {α : Type} (f : α → D) : ∀ (xs : List α) (n : Nat), enumD n (xs.map f) = (xs.mapIdx fun i x => (n + i, x)).map fun q => pairD (.int ((q.1 : Nat) : Int)) (f q.2)
  | [], n => rfl
  | x :: xs, n => by
    simp only [List.map_cons, enumD, List.mapIdx_cons, enum_map f xs (n + 1), Nat.add_zero]
    congr 3
    funext i y
    simp only [Prod.mk.injEq, and_true]
    omega
theorem idx_snd {α : Type} : ∀ (xs : List α) (n : Nat), ((xs.mapIdx fun i x => (n + i, x)).map (·.2)) = xs
  | [], n => rfl
  | x :: xs, n => by
    have := idx_snd xs (n + 1)
    simp only [List.mapIdx_cons, List.map_cons, List.cons.injEq, true_and]
    rw [show (fun i (y : α) => (n + (i + 1), y)) = fun i y => (n + 1 + i, y) by funext i y; simp only [Prod.mk.injEq, and_true]; omega]
    exact this
theorem stk_ne {ps : List (Nat × Nat)} {s : Int} : stk s ps = [] ↔ ps = [] := by
  cases ps <;> simp [stk]
theorem FW.stocks {ps : List (Nat × Nat)} {P : PV.Tm → List PV.Tm → Prop} {X : Er → List PV.Tm → Prop} (hl : ps.length ≤ 1000) (hw : Lawful 0 ps) (h : P (.v .O (lI (stk 0 ps))) []) : FW den_stocks_of [.v .B (.tup (ps.map pD))] P X := by
  refine FW.def (ρ0 := [some (.v .B (.tup (ps.map pD))), none, none, none, none]) rfl ?_
  unfold d_stocks_of
  walk_at "wp"
  refine ⟨_, rfl, ?_⟩
  rw [enum_map]
  refine ForW.data (fun pre ρ => ∃ v2 v3 v4, ρ = [some (.v .B (.tup (ps.map pD))), some (.v .O (lI (stk 0 (pre.map (·.2))))), v2, v3, v4]) (ps.mapIdx fun i x => (0 + i, x)) ⟨_, _, _, rfl⟩ ?_ ?_
  · rintro pre q suf ρ hp ⟨v2, v3, v4, rfl⟩
    have hps : ps = pre.map (·.2) ++ q.2 :: suf.map (·.2) := by
      have := congrArg (List.map (·.2)) hp
      rw [idx_snd, List.map_append, List.map_cons] at this
      exact this
    have hlen : (stk 0 (pre.map (·.2))).length ≤ 1000 := by
      rw [stk_len]
      have := congrArg List.length hps
      rw [List.length_append, List.length_cons] at this
      omega
    have hgo : 0 ≤ lastS 0 (pre.map (·.2)) + q.2.1 - q.2.2 := by
      have h2 : ∀ (as : List (Nat × Nat)) (b : Nat × Nat) (cs : List (Nat × Nat)) (s : Int), (lastS s as + b.1 - b.2) ∈ stk s (as ++ b :: cs) := by
        intro as
        induction as with
        | nil => intro b cs s; simp [stk, lastS]
        | cons a as ih => intro b cs s; exact List.mem_cons_of_mem _ (ih b cs _)
      exact hw _ (by rw [hps]; exact h2 _ _ _ _)
    rw [List.map_append]
    show TW _ _ _ fun ρ1 => SW _ _ (fun ρ2 => ∃ v2 v3 v4, ρ2 = [some (.v .B (.tup (ps.map pD))), some (.v .O (lI (stk 0 (pre.map (·.2) ++ [q.2])))), v2, v3, v4]) _ _ (fun ρ2 => ∃ v2 v3 v4, ρ2 = [some (.v .B (.tup (ps.map pD))), some (.v .O (lI (stk 0 (pre.map (·.2) ++ [q.2])))), v2, v3, v4]) _
    rw [stk_app]
    generalize hpm : pre.map (·.2) = pm at *
    have fin : ∀ (old : Int), old = lastS 0 pm → stk 0 pm ++ [old + q.2.1 - q.2.2] = stk 0 pm ++ [lastS 0 pm + q.2.1 - q.2.2] := fun old e => by rw [e]
    have tail : ∀ (old : Int) (N : Ss → Prop), old = lastS 0 pm → N [some (.v .B (.tup (ps.map pD))), some (.v .O (lI (stk 0 pm ++ [lastS 0 pm + q.2.1 - q.2.2]))), some (.v .B (.int q.1)), some (.v .B (.int q.2.1)), some (.v .B (.int q.2.2))] → N [some (.v .B (.tup (ps.map pD))), some (.v .O (.lst ((stk 0 pm).map D.int ++ [.int (old + q.2.1 - q.2.2)]))), some (.v .B (.int q.1)), some (.v .B (.int q.2.1)), some (.v .B (.int q.2.2))] := fun old N e h => by
      subst e
      have : lI (stk 0 pm ++ [lastS 0 pm + q.2.1 - q.2.2]) = .lst ((stk 0 pm).map D.int ++ [.int (lastS 0 pm + q.2.1 - q.2.2)]) := congrArg D.lst List.map_append
      rw [this] at h
      exact h
    have chk : ∀ (old : Int), old = lastS 0 pm → atI ((stk 0 pm).map D.int ++ [D.int (old + q.2.1 - q.2.2)]) (-1) = some (.int (lastS 0 pm + q.2.1 - q.2.2)) := fun old e => atI_neg1 (by rw [e]; simp)
    walk_at "wp"
    refine ⟨_, _, _, _, _, Is.loc rfl, Is.v, neD_lints _ [], ?_⟩
    refine BoW.d (fun hne => ?_) fun hne => ?_
    · have hpn : pm ≠ [] := fun z => hne (by rw [z]; rfl)
      walk_at "wp"
      refine IdxW.lO (by walk_at "is") (by walk_at "is") (atI_neg1 (x := D.int (lastS 0 pm)) (by rw [List.length_map, stk_len, List.getElem?_map, stk_last _ _ hpn]; rfl)) ?_
      walk_at "wp"
      refine IdxW.lO (by walk_at "is") (by walk_at "is") (chk _ rfl) ?_
      walk_at "wp"
      refine BoW.d (fun hb => absurd hgo (by omega)) fun _ => ?_
      walk_at "wp"
      exact tail _ (fun ρ => ∃ v2 v3 v4, ρ = [some (.v .B (.tup (ps.map pD))), some (.v .O (lI (stk 0 pm ++ [lastS 0 pm + q.2.1 - q.2.2]))), v2, v3, v4]) rfl ⟨_, _, _, rfl⟩
    · have hpn : pm = [] := stk_ne.mp (Decidable.not_not.mp hne)
      have e0 : (0 : Int) = lastS 0 pm := by rw [hpn]; rfl
      walk_at "wp"
      refine IdxW.lO (by walk_at "is") (by walk_at "is") (chk _ e0) ?_
      walk_at "wp"
      refine BoW.d (fun hb => absurd hgo (by omega)) fun _ => ?_
      walk_at "wp"
      exact tail _ (fun ρ => ∃ v2 v3 v4, ρ = [some (.v .B (.tup (ps.map pD))), some (.v .O (lI (stk 0 pm ++ [lastS 0 pm + q.2.1 - q.2.2]))), v2, v3, v4]) e0 ⟨_, _, _, rfl⟩
  · rintro ρ ⟨v2, v3, v4, rfl⟩
    rw [idx_snd]
    walk_at "wp"
    exact h
end LW
namespace LW
open PySem L2 PV
local macro_rules | `(tactic| walk_at "set") => `(tactic| (repeat (first | with_reducible exact set_z | with_reducible apply set_s | exact set_z | apply set_s)))
local macro_rules | `(tactic| walk_at "is") => `(tactic| (first | exact Is.v | exact Is.loc rfl))
local macro_rules | `(tactic| walk_at "lt") => `(tactic| first | exact ltL rfl | omega | (simp only [List.length_cons, List.length_nil]; omega))
local macro_rules | `(tactic| walk_at "sz") => `(tactic| first | omega | (simp only [sizeLine_eq, List.length_append, List.length_cons, List.length_nil, List.length_map, List.length_replicate, List.length_reverse] at *; omega))
local macro_rules | `(tactic| walk_at "w1") => `(tactic| ((with_reducible apply And.intro); (focus (first | walk_at "sz" | exact rfl))))
local macro_rules | `(tactic| walk_at "w1") => `(tactic| ((with_reducible apply and3); (focus (exact rfl)); (focus (walk_at "lt")); (focus (walk_at "set"))))
local macro_rules | `(tactic| walk_at "w1") => `(tactic| ((with_reducible refine FzD.Bx ?_ ?_); (focus (exact flat_int))))
local macro_rules | `(tactic| walk_at "w1") => `(tactic| (with_reducible refine FzD.O ?_))
local macro_rules | `(tactic| walk_at "w1") => `(tactic| (with_reducible refine FzD.F ?_))
local macro_rules | `(tactic| walk_at "w1") => `(tactic| (with_reducible refine NotW.b ?_))
local macro_rules | `(tactic| walk_at "w1") => `(tactic| (with_reducible refine NotW.d ?_))
local macro_rules | `(tactic| walk_at "w1") => `(tactic| (with_reducible refine BoW.ff ?_))
local macro_rules | `(tactic| walk_at "w1") => `(tactic| (with_reducible refine BoW.tt ?_))
local macro_rules | `(tactic| walk_at "w1") => `(tactic| (with_reducible refine TW.tp ?_))
local macro_rules | `(tactic| walk_at "w1") => `(tactic| ((with_reducible apply par1); (focus (repeat (first | with_reducible exact st0 | (apply st1; (focus (exact rfl)); (focus (walk_at "lt")); (focus (walk_at "set"))))))))
local macro_rules | `(tactic| walk_at "w1") => `(tactic| (with_reducible refine TW.tup2F ?_))
local macro_rules | `(tactic| walk_at "w1") => `(tactic| (with_reducible refine TW.tup2B ?_))
local macro_rules | `(tactic| walk_at "w1") => `(tactic| (with_reducible refine TsW.cons ?_))
local macro_rules | `(tactic| walk_at "w1") => `(tactic| (with_reducible refine TsW.nil ?_))
local macro_rules | `(tactic| walk_at "w1") => `(tactic| ((with_reducible apply TW.n); (focus (exact rfl)); (focus (walk_at "lt")); (focus (walk_at "set"))))
local macro_rules | `(tactic| walk_at "w1") => `(tactic| ((with_reducible refine R1W.go ?_ ?_); (focus omega)))
local macro_rules | `(tactic| walk_at "w1") => `(tactic| (with_reducible refine ItsW.tupB ?_))
local macro_rules | `(tactic| walk_at "w1") => `(tactic| (with_reducible refine ItsW.tupF ?_))
local macro_rules | `(tactic| walk_at "w1") => `(tactic| (with_reducible refine ItsW.lstO ?_))
local macro_rules | `(tactic| walk_at "w1") => `(tactic| (with_reducible refine ItsW.lstB ?_))
local macro_rules | `(tactic| walk_at "w1") => `(tactic| (with_reducible refine ItsW.lstF ?_))
local macro_rules | `(tactic| walk_at "w1") => `(tactic| (with_reducible refine IW.r1 ?_))
local macro_rules | `(tactic| walk_at "w1") => `(tactic| (with_reducible refine IW.seq ?_))
local macro_rules | `(tactic| walk_at "w1") => `(tactic| ((with_reducible apply PtW.io); (focus (walk_at "lt")); (focus (walk_at "set"))))
local macro_rules | `(tactic| walk_at "w1") => `(tactic| (with_reducible refine PtW.f ?_))
local macro_rules | `(tactic| walk_at "w1") => `(tactic| (with_reducible refine PtW.b ?_))
local macro_rules | `(tactic| walk_at "w1") => `(tactic| (with_reducible refine PtW.nil ?_))
local macro_rules | `(tactic| walk_at "w1") => `(tactic| (with_reducible refine PaW.fF ?_))
local macro_rules | `(tactic| walk_at "w1") => `(tactic| ((with_reducible apply PaW.bOb); (focus (exact rfl)); (focus (repeat (first | exact mapD_n | apply mapD_c)))))
local macro_rules | `(tactic| walk_at "w1") => `(tactic| ((with_reducible apply PaW.b); (focus (walk_at "is"))))
local macro_rules | `(tactic| walk_at "w1") => `(tactic| (with_reducible refine PaW.io ?_))
local macro_rules | `(tactic| walk_at "w1") => `(tactic| (with_reducible refine PaW.nil ?_))
local macro_rules | `(tactic| walk_at "w1") => `(tactic| ((with_reducible apply PuW.io); (focus (exact rfl)); (focus (walk_at "set"))))
local macro_rules | `(tactic| walk_at "w1") => `(tactic| (with_reducible refine PuW.f ?_))
local macro_rules | `(tactic| walk_at "w1") => `(tactic| (with_reducible refine PuW.b ?_))
local macro_rules | `(tactic| walk_at "w1") => `(tactic| (with_reducible refine PuW.nil ?_))
local macro_rules | `(tactic| walk_at "w1") => `(tactic| (with_reducible refine CaW.go ?_))
local macro_rules | `(tactic| walk_at "w1") => `(tactic| ((with_reducible refine UnW.xOb ?_ ?_); (focus (repeat (first | exact unBs_nilE | refine unBs_F ?_ | refine unBs_O ?_)))))
local macro_rules | `(tactic| walk_at "w1") => `(tactic| ((with_reducible refine UnW.xB ?_ ?_); (focus (exact flat_str))))
local macro_rules | `(tactic| walk_at "w1") => `(tactic| ((with_reducible refine UnW.xB ?_ ?_); (focus (exact flat_int))))
local macro_rules | `(tactic| walk_at "w1") => `(tactic| (with_reducible refine UnW.xO ?_))
local macro_rules | `(tactic| walk_at "w1") => `(tactic| (with_reducible refine UnW.xF ?_))
local macro_rules | `(tactic| walk_at "w1") => `(tactic| ((with_reducible apply GiW.cons); (focus (exact rfl)); (focus (walk_at "set"))))
local macro_rules | `(tactic| walk_at "w1") => `(tactic| (with_reducible refine GiW.nil ?_))
local macro_rules | `(tactic| walk_at "w1") => `(tactic| (with_reducible refine EW.pow ?_))
local macro_rules | `(tactic| walk_at "w1") => `(tactic| (with_reducible refine EW.abs ?_))
local macro_rules | `(tactic| walk_at "w1") => `(tactic| ((with_reducible apply len_scr); (focus (walk_at "is"))))
local macro_rules | `(tactic| walk_at "w1") => `(tactic| ((with_reducible apply len_tup); (focus (walk_at "is"))))
local macro_rules | `(tactic| walk_at "w1") => `(tactic| ((with_reducible apply len_lst); (focus (walk_at "is"))))
local macro_rules | `(tactic| walk_at "w1") => `(tactic| ((with_reducible apply SW.aug); (focus (exact rfl))))
local macro_rules | `(tactic| walk_at "w1") => `(tactic| ((with_reducible apply SW.faug); (focus (exact rfl)); (focus (exact rfl))))
local macro_rules | `(tactic| walk_at "w1") => `(tactic| ((with_reducible apply fst4); (focus (exact rfl)); (focus (walk_at "lt")); (focus (repeat (first | exact setAt_z | exact setAt_n | apply setAt_s))); (focus (walk_at "set"))))
local macro_rules | `(tactic| walk_at "w1") => `(tactic| ((with_reducible apply lm5); (focus (exact rfl)); (focus (exact rfl)); (focus (walk_at "sz")); (focus (walk_at "set"))))
local macro_rules | `(tactic| walk_at "w1") => `(tactic| ((with_reducible apply EW.lm); (focus (exact rfl))))
local macro_rules | `(tactic| walk_at "w1") => `(tactic| ((with_reducible apply sub5); (focus (exact rfl)); (focus (first | exact ix0 rfl | exact ix1 rfl)); (focus (walk_at "set")); (focus (walk_at "set"))))
local macro_rules | `(tactic| walk_at "w1") => `(tactic| ((with_reducible apply I1W.go); (focus (walk_at "is"))))
local macro_rules | `(tactic| walk_at "w1") => `(tactic| ((with_reducible apply TW.sub); (focus (exact rfl))))
local macro_rules | `(tactic| walk_at "w1") => `(tactic| ((with_reducible apply IdxW.tF); (focus (walk_at "is")); (focus (walk_at "is")); (focus (exact rfl))))
local macro_rules | `(tactic| walk_at "w1") => `(tactic| ((with_reducible apply IdxW.tB); (focus (walk_at "is")); (focus (walk_at "is")); (focus (exact rfl))))
local macro_rules | `(tactic| walk_at "w1") => `(tactic| ((with_reducible apply IdxW.lO); (focus (walk_at "is")); (focus (walk_at "is")); (focus (exact rfl))))
local macro_rules | `(tactic| walk_at "w1") => `(tactic| ((with_reducible apply IdxW.lF); (focus (walk_at "is")); (focus (walk_at "is")); (focus (exact rfl))))
local macro_rules | `(tactic| walk_at "w1") => `(tactic| ((with_reducible apply IdxW.lB); (focus (walk_at "is")); (focus (walk_at "is")); (focus (exact rfl))))
local macro_rules | `(tactic| walk_at "w1") => `(tactic| ((with_reducible apply FldW.insF); (focus (exact rfl))))
local macro_rules | `(tactic| walk_at "w1") => `(tactic| ((with_reducible apply FldW.insB); (focus (exact rfl))))
local macro_rules | `(tactic| walk_at "w1") => `(tactic| ((with_reducible apply FldW.ob); (focus (exact rfl)); (focus (exact rfl))))
local macro_rules | `(tactic| walk_at "w1") => `(tactic| ((with_reducible apply MulW.ii); (focus (walk_at "is")); (focus (walk_at "is")); (focus omega)))
local macro_rules | `(tactic| walk_at "w1") => `(tactic| ((with_reducible apply AddW.ii); (focus (walk_at "is")); (focus (walk_at "is"))))
local macro_rules | `(tactic| walk_at "w1") => `(tactic| ((with_reducible apply IIW.go); (focus (walk_at "is")); (focus (walk_at "is"))))
local macro_rules | `(tactic| walk_at "w1") => `(tactic| (with_reducible refine FzsW.O ?_))
local macro_rules | `(tactic| walk_at "w1") => `(tactic| (with_reducible refine FzsW.F ?_))
local macro_rules | `(tactic| walk_at "w1") => `(tactic| (with_reducible refine FzsW.nil ?_))
local macro_rules | `(tactic| walk_at "w1") => `(tactic| (with_reducible refine AW.cons ?_))
local macro_rules | `(tactic| walk_at "w1") => `(tactic| (with_reducible refine AW.nil ?_))
local macro_rules | `(tactic| walk_at "w1") => `(tactic| ((with_reducible apply MvW.loc); (focus (exact rfl)); (focus (walk_at "set"))))
local macro_rules | `(tactic| walk_at "w1") => `(tactic| (with_reducible refine MvW.v ?_))
local macro_rules | `(tactic| walk_at "w1") => `(tactic| ((with_reducible apply FzW.loc); (focus (exact rfl)); (focus (walk_at "set"))))
local macro_rules | `(tactic| walk_at "w1") => `(tactic| ((with_reducible refine FzW.Bx ?_ ?_); (focus (exact flat_str))))
local macro_rules | `(tactic| walk_at "w1") => `(tactic| ((with_reducible refine FzW.Bx ?_ ?_); (focus (exact flat_int))))
local macro_rules | `(tactic| walk_at "w1") => `(tactic| (with_reducible refine FzW.ob ?_))
local macro_rules | `(tactic| walk_at "w1") => `(tactic| (with_reducible refine FzW.O ?_))
local macro_rules | `(tactic| walk_at "w1") => `(tactic| (with_reducible refine FzW.F ?_))
local macro_rules | `(tactic| walk_at "w1") => `(tactic| (with_reducible refine EW.fz ?_))
local macro_rules | `(tactic| walk_at "w1") => `(tactic| (with_reducible refine EW.mv ?_))
local macro_rules | `(tactic| walk_at "w1") => `(tactic| (with_reducible refine EW.tuple ?_))
local macro_rules | `(tactic| walk_at "w1") => `(tactic| (with_reducible refine EW.list ?_))
local macro_rules | `(tactic| walk_at "w1") => `(tactic| (with_reducible refine EW.sum ?_))
local macro_rules | `(tactic| walk_at "w1") => `(tactic| (with_reducible refine EW.ne ?_))
local macro_rules | `(tactic| walk_at "w1") => `(tactic| (with_reducible refine EW.eq ?_))
local macro_rules | `(tactic| walk_at "w1") => `(tactic| (with_reducible refine asI4 ?_))
local macro_rules | `(tactic| walk_at "w1") => `(tactic| (with_reducible refine OW.someI ?_))
local macro_rules | `(tactic| walk_at "w1") => `(tactic| (with_reducible refine OW.none ?_))
local macro_rules | `(tactic| walk_at "w1") => `(tactic| (with_reducible refine EW.sl ?_))
local macro_rules | `(tactic| walk_at "w1") => `(tactic| ((with_reducible apply ExtW.F); (focus (exact rfl)); (focus (walk_at "sz")); (focus (walk_at "set"))))
local macro_rules | `(tactic| walk_at "w1") => `(tactic| (with_reducible refine IW.zip ?_))
local macro_rules | `(tactic| walk_at "w1") => `(tactic| ((with_reducible apply SW.augSub); (focus (exact rfl))))
local macro_rules | `(tactic| walk_at "w1") => `(tactic| ((with_reducible apply SW.ext); (focus (exact rfl))))
local macro_rules | `(tactic| walk_at "w1") => `(tactic| (with_reducible refine EW.neg ?_))
local macro_rules | `(tactic| walk_at "w1") => `(tactic| (with_reducible refine EW.tupR ?_))
local macro_rules | `(tactic| walk_at "w1") => `(tactic| (with_reducible refine EW.sumA ?_))
local macro_rules | `(tactic| walk_at "w1") => `(tactic| (with_reducible refine EW.isN ?_))
local macro_rules | `(tactic| walk_at "w1") => `(tactic| (with_reducible refine EW.comp1 ?_))
local macro_rules | `(tactic| walk_at "w1") => `(tactic| (with_reducible refine EW.lst ?_))
local macro_rules | `(tactic| walk_at "w1") => `(tactic| (with_reducible refine EW.tup ?_))
local macro_rules | `(tactic| walk_at "w1") => `(tactic| (with_reducible refine EW.not ?_))
local macro_rules | `(tactic| walk_at "w1") => `(tactic| (with_reducible refine EW.or ?_))
local macro_rules | `(tactic| walk_at "w1") => `(tactic| (with_reducible refine EW.and ?_))
local macro_rules | `(tactic| walk_at "w1") => `(tactic| (with_reducible refine EW.ifx ?_))
local macro_rules | `(tactic| walk_at "w1") => `(tactic| (with_reducible refine EW.fld ?_))
local macro_rules | `(tactic| walk_at "w1") => `(tactic| (with_reducible refine EW.make ?_))
local macro_rules | `(tactic| walk_at "w1") => `(tactic| (with_reducible refine EW.call ?_))
local macro_rules | `(tactic| walk_at "w1") => `(tactic| (with_reducible refine EW.len ?_))
local macro_rules | `(tactic| walk_at "w1") => `(tactic| (with_reducible refine EW.min2 ?_))
local macro_rules | `(tactic| walk_at "w1") => `(tactic| (with_reducible refine EW.max2 ?_))
local macro_rules | `(tactic| walk_at "w1") => `(tactic| (with_reducible refine EW.idx ?_))
local macro_rules | `(tactic| walk_at "w1") => `(tactic| (with_reducible refine EW.mul ?_))
local macro_rules | `(tactic| walk_at "w1") => `(tactic| (with_reducible refine EW.add ?_))
local macro_rules | `(tactic| walk_at "w1") => `(tactic| (with_reducible refine EW.sub ?_))
local macro_rules | `(tactic| walk_at "w1") => `(tactic| (with_reducible refine EW.div ?_))
local macro_rules | `(tactic| walk_at "w1") => `(tactic| (with_reducible refine EW.mod ?_))
local macro_rules | `(tactic| walk_at "w1") => `(tactic| (with_reducible refine EW.lt ?_))
local macro_rules | `(tactic| walk_at "w1") => `(tactic| (with_reducible refine EW.gt ?_))
local macro_rules | `(tactic| walk_at "w1") => `(tactic| (with_reducible refine EW.strO ?_))
local macro_rules | `(tactic| walk_at "w1") => `(tactic| (with_reducible refine EW.join ?_))
local macro_rules | `(tactic| walk_at "w1") => `(tactic| (with_reducible refine EW.all ?_))
local macro_rules | `(tactic| walk_at "w1") => `(tactic| (with_reducible refine EW.strI ?_))
local macro_rules | `(tactic| walk_at "w1") => `(tactic| (with_reducible refine EW.nm ?_))
local macro_rules | `(tactic| walk_at "w1") => `(tactic| (with_reducible refine EW.isB ?_))
local macro_rules | `(tactic| walk_at "w1") => `(tactic| (with_reducible refine EW.repr2 ?_))
local macro_rules | `(tactic| walk_at "w1") => `(tactic| ((with_reducible apply TW.subK); (focus (exact rfl))))
local macro_rules | `(tactic| walk_at "w1") => `(tactic| (with_reducible refine EW.inE ?_))
local macro_rules | `(tactic| walk_at "w1") => `(tactic| (with_reducible refine IW.enA ?_))
local macro_rules | `(tactic| walk_at "w1") => `(tactic| ((with_reducible apply TW.subX); (focus (exact rfl))))
local macro_rules | `(tactic| walk_at "w1") => `(tactic| (with_reducible refine SW.par ?_))
local macro_rules | `(tactic| walk_at "w1") => `(tactic| (with_reducible refine SW.fst ?_))
local macro_rules | `(tactic| walk_at "w1") => `(tactic| (with_reducible refine SW.for ?_))
local macro_rules | `(tactic| walk_at "w1") => `(tactic| (with_reducible refine SW.expr ?_))
local macro_rules | `(tactic| walk_at "w1") => `(tactic| (with_reducible refine SW.nil ?_))
local macro_rules | `(tactic| walk_at "w1") => `(tactic| (with_reducible refine SW.asg ?_))
local macro_rules | `(tactic| walk_at "w1") => `(tactic| (with_reducible refine SW.ret ?_))
local macro_rules | `(tactic| walk_at "w1") => `(tactic| (with_reducible refine SW.ite ?_))
local macro_rules | `(tactic| walk_at "w1") => `(tactic| ((with_reducible refine SW.set ?_)))
local macro_rules | `(tactic| walk_at "w1") => `(tactic| (with_reducible refine SW.seq ?_))
local macro_rules | `(tactic| walk_at "w1") => `(tactic| (with_reducible refine VarW.xOb ?_))
local macro_rules | `(tactic| walk_at "w1") => `(tactic| (with_reducible refine VarW.xO ?_))
local macro_rules | `(tactic| walk_at "w1") => `(tactic| (with_reducible refine VarW.xB ?_))
local macro_rules | `(tactic| walk_at "w1") => `(tactic| (with_reducible refine VarW.xF ?_))
local macro_rules | `(tactic| walk_at "w1") => `(tactic| ((with_reducible apply EW.var); (focus (exact rfl))))
local macro_rules | `(tactic| walk_at "w1") => `(tactic| (with_reducible refine EW.tr ?_))
local macro_rules | `(tactic| walk_at "w1") => `(tactic| (with_reducible refine EW.n ?_))
local macro_rules | `(tactic| walk_at "w1") => `(tactic| (with_reducible refine EW.z ?_))
local macro_rules | `(tactic| walk_at "w1") => `(tactic| (with_reducible refine EW.c ?_))
local macro_rules | `(tactic| walk_at "wp") => `(tactic| repeat (walk_at "w1"))
local macro_rules | `(tactic| walk_at "cp") => `(tactic| (refine ⟨_, (by walk_at "set"), ?_⟩; walk_at "wp"; all_goals (first | exact ⟨rfl, rfl⟩ | exact rfl)))
/-- each number as often as is said -/
def repP : List (Int × Nat) → List Int
  | [] => []
  | p :: ps => List.replicate p.2 p.1 ++ repP ps
theorem repP_len : ∀ ps : List (Int × Nat), (repP ps).length = (ps.map (·.2)).sum
  | [] => rfl
  | p :: ps => by simp [repP, repP_len ps]
theorem rep_cr {a b : Option PV.Tm} : ∀ (ps : List (Int × Nat)) {x2 x3 x4 : Option PV.Tm} {K : List D → Ss → Prop}, (∀ p ∈ ps, p.2 < 1000000) → K ((repP ps).map .int) [a, b, none, none, none] →
    CrW (tgTup (tgsCons (tgN 2) (tgsCons (tgN 3) tgsNil))) (eVar 3) (tgN 4) (eF (eVar 2)) [2, 3, 4] [4] ((ps.map fun p => pairD (.int p.1) (.int (p.2 : Int))).map (PV.Tm.v .B)) [a, b, x2, x3, x4] K
  | [], x2, x3, x4, K, hb, h => CrW.nil (ρ1 := [a, b, none, none, none]) rfl h
  | p :: ps, x2, x3, x4, K, hb, h => by
    have hp := hb p List.mem_cons_self
    refine CrW.cons (ρ1 := [a, b, none, none, none]) rfl ?_
    walk_at "wp"
    rw [Int.toNat_natCast]
    unfold rngL
    refine CoW.go (inj := fun i : Nat => PV.Tm.v .F (.int (0 + (i : Int)))) (fun q es ρ => ρ = [a, b, some (.v .B (.int p.1)), some (.v .B (.int (p.2 : Int))), none] ∧ es = List.replicate q.length (.int p.1)) (List.range p.2) ⟨_, wip1 (by walk_at "set"), rfl, rfl⟩ ?_ ?_
    · rintro q x r es ρ hq ⟨rfl, rfl⟩
      walk_at "wp"
      refine ⟨_, wip1 (by walk_at "set"), rfl, ?_⟩
      rw [List.length_append, List.length_cons, List.length_nil, List.replicate_succ']
    · rintro es ρ ⟨rfl, rfl⟩
      rw [List.length_range]
      refine rep_cr ps (fun p hp => hb p (List.mem_cons_of_mem _ hp)) ?_
      rw [show List.replicate p.2 (D.int p.1) ++ (repP ps).map .int = (repP (p :: ps)).map .int by rw [repP, List.map_append, List.map_replicate]]
      exact h
theorem zip_ints (xs : List Int) (ms : List Nat) : zipD (xs.map .int) (ms.map fun m : Nat => D.int (m : Int)) = (xs.zip ms).map fun p => pairD (.int p.1) (.int (p.2 : Int)) := by
  unfold zipD
  rw [List.zipWith_map, List.zip, List.map_zipWith]
theorem FW.repeated {xs : List Int} {ms : List Nat} {P : PV.Tm → List PV.Tm → Prop} {X : Er → List PV.Tm → Prop} (hb : ∀ m ∈ ms, m < 1000000) (hz : (repP (xs.zip ms)).length ≤ 1000000) (h : P (.v .F (.tup ((repP (xs.zip ms)).map .int))) []) :
    FW den_repeated [.v .B (lI xs), .v .B (.lst (ms.map fun m : Nat => D.int (m : Int)))] P X := by
  refine FW.def (ρ0 := [some (.v .B (lI xs)), some (.v .B (.lst (ms.map fun m : Nat => D.int (m : Int)))), none, none, none]) rfl ?_
  unfold d_repeated
  refine SW.ret (EW.tuple (EW.compR ?_))
  walk_at "wp"
  refine ⟨_, rfl, rfl, ?_⟩
  rw [show kd2 .B .B = .B from rfl, zip_ints]
  refine rep_cr _ (fun p hp => hb p.2 (List.of_mem_zip hp).2) ?_
  refine ⟨by rw [List.length_map, sizeLine_eq]; omega, _, rfl, ?_⟩
  refine ⟨_, _, .inl Is.v, elkO, ?_⟩
  walk_at "wp"
  exact h
/-- what leaves, with the closing -/
def closed (ps : List (Nat × Nat)) : List Nat := (ps.map (·.2)).set (ps.length - 1) ((ps.map (·.2)).getD (ps.length - 1) 0 + (lastS 0 ps).toNat)
def dIn (ps : List (Nat × Nat)) : List Int := repP (((List.range ps.length).map fun i : Nat => (i : Int)).zip (ps.map (·.1)))
def dOut (ps : List (Nat × Nat)) : List Int := repP (((List.range ps.length).map fun i : Nat => (i : Int)).zip (closed ps))
/-- the log's attributes -/
abbrev logF (ps : List (Nat × Nat)) : List PV.Tm := [.v .F (.tup (ps.map pD)), .v .F (lI (stk 0 ps)), .v .F (.tup ((dIn ps).map .int)), .v .F (.tup ((dOut ps).map .int))]
theorem sum_le_of {M : Nat} : ∀ {ms : List Nat}, (∀ m ∈ ms, m ≤ M) → ms.sum ≤ M * ms.length
  | [], _ => by simp
  | m :: ms, h => by
    have h1 := h m List.mem_cons_self
    have h2 := sum_le_of fun x hx => h x (List.mem_cons_of_mem _ hx)
    rw [List.sum_cons, List.length_cons, Nat.mul_add, Nat.mul_one]
    omega
theorem repP_zip_le (xs : List Int) (ms : List Nat) {M : Nat} (h : ∀ m ∈ ms, m ≤ M) : (repP (xs.zip ms)).length ≤ M * ms.length := by
  rw [repP_len]
  have h1 : ∀ m ∈ (xs.zip ms).map (·.2), m ≤ M := fun m hm => by
    obtain ⟨p, hp, rfl⟩ := List.mem_map.mp hm
    exact h _ (List.of_mem_zip hp).2
  have h2 := sum_le_of h1
  rw [List.length_map, List.length_zip] at h2
  have : M * min xs.length ms.length ≤ M * ms.length := Nat.mul_le_mul_left _ (by omega)
  omega
theorem lastS_le {M : Nat} : ∀ {ps : List (Nat × Nat)} {s : Int}, (∀ p ∈ ps, p.1 ≤ M) → lastS s ps ≤ s + M * ps.length
  | [], s, _ => by simp [lastS]
  | p :: ps, s, h => by
    have h1 := h p List.mem_cons_self
    have h2 := lastS_le (s := s + p.1 - p.2) fun x hx => h x (List.mem_cons_of_mem _ hx)
    rw [lastS, List.length_cons]
    have : ((M * (ps.length + 1) : Nat) : Int) = M * ps.length + M := by rw [Nat.mul_add, Nat.mul_one]; simp
    simp only [Int.natCast_add, Int.natCast_one, Int.mul_add, Int.mul_one] at *
    omega
theorem last_get {α : Type} (f : Nat × Nat → α) (d : α) (ps : List (Nat × Nat)) (h : ps ≠ []) : (ps.map f)[ps.length - 1]? = some ((ps.map f).getD (ps.length - 1) d) := by
  have hl : 0 < ps.length := List.length_pos_iff.mpr h
  rw [List.getD_eq_getElem?_getD, List.getElem?_eq_getElem (by rw [List.length_map]; omega), Option.getD_some]
theorem nat_pick {a b c e : Int} {x : D} (h : x ∈ [D.int a, .int b, .int c, .int e]) (ha : 0 ≤ a) (hb : 0 ≤ b) (hc : 0 ≤ c) (he : 0 ≤ e) : ∃ l : Nat, x = .int (l : Int) := by
  have go : ∀ {y : Int}, 0 ≤ y → ∃ l : Nat, D.int y = .int (l : Int) := fun {y} hy => ⟨y.toNat, by rw [Int.toNat_of_nonneg hy]⟩
  simp only [List.mem_cons, List.not_mem_nil, or_false] at h
  rcases h with rfl | rfl | rfl | rfl
  · exact go ha
  · exact go hb
  · exact go hc
  · exact go he
theorem Lawful.snoc {ps : List (Nat × Nat)} {p : Nat × Nat} (h : Lawful 0 ps) (hp : 0 ≤ lastS 0 ps + p.1 - p.2) : Lawful 0 (ps ++ [p]) := fun x hx => by
  rw [stk_app] at hx
  rcases List.mem_append.mp hx with hx | hx
  · exact h x hx
  · rw [List.mem_singleton.mp hx]; exact hp
theorem FW.days {d s : Int} {n u : Nat} {P : PV.Tm → List PV.Tm → Prop} {X : Er → List PV.Tm → Prop} (hn : n ≤ 100) (hu : u ≤ 60)
    (h : ∀ (ps : List (Nat × Nat)) (d' s' : Int), ps.length = n → Lawful 0 ps → (∀ p ∈ ps, p.1 ≤ 60 ∧ p.2 ≤ 60) → (ps.map (·.1)).sum ≤ u → P (.v .O (.lst (ps.map pD))) [feedT d' s']) :
    FW den__law_days [feedT d s, .v .B (.int (n : Int)), .v .B (.int (u : Int))] P X := by
  refine FW.def (ρ0 := [some (feedT d s), some (.v .B (.int (n : Int))), some (.v .B (.int (u : Int))), none, none, none, none, none, none, none]) rfl ?_
  unfold d__law_days
  walk_at "wp"
  refine FW.pick (by simp) (by simp) fun x d s hx => ?_
  obtain ⟨busy, rfl, hb1, hb2⟩ : ∃ l : Int, x = .int l ∧ 1 ≤ l ∧ l ≤ 8 := by
    simp only [List.mem_cons, List.not_mem_nil, or_false] at hx
    rcases hx with rfl | rfl | rfl | rfl <;> exact ⟨_, rfl, by omega, by omega⟩
  clear hx
  walk_at "wp"
  refine ForW.num (fun i ρ => ∃ (ps : List (Nat × Nat)) (st tt : Nat) (d s : Int) (v7 v8 v9 : Option PV.Tm), ρ = [some (feedT d s), some (.v .B (.int (n : Int))), some (.v .B (.int (u : Int))), some (.v .O (.lst (ps.map pD))), some (.v .F (.int (st : Int))), some (.v .F (.int (tt : Int))), some (.v .F (.int busy)), v7, v8, v9]
    ∧ ps.length = i ∧ (st : Int) = lastS 0 ps ∧ tt = (ps.map (·.1)).sum ∧ st ≤ tt ∧ tt ≤ u ∧ Lawful 0 ps ∧ ∀ p ∈ ps, p.1 ≤ 60 ∧ p.2 ≤ 60) _ 0 ⟨[], 0, 0, _, _, none, none, none, rfl, rfl, rfl, rfl, Nat.le_refl _, Nat.zero_le _, fun x hx => (List.not_mem_nil hx).elim, fun x hx => (List.not_mem_nil hx).elim⟩ ?_ ?_
  · rintro i t ρ ht ⟨ps, st, tt, d, s, v7, v8, v9, rfl, hl, hst, htt, h1, h2, hw, hb⟩
    obtain ⟨hi, rfl⟩ := rngL_at ht
    rw [Int.toNat_natCast] at hi
    rw [Nat.zero_add] at hl ⊢
    walk_at "wp"
    refine FW.take (by omega) (by omega) fun r1 d s lo1 hi1 => ?_
    walk_at "wp"
    refine FW.pick (by simp) (by simp) fun x d s hx => ?_
    obtain ⟨l1, rfl⟩ := nat_pick hx (by omega) (by omega) (by omega) lo1
    clear hx
    walk_at "wp"
    obtain ⟨a, ha, ha2⟩ : ∃ a : Nat, min ((u : Int) - (tt : Int)) (l1 : Int) = (a : Int) ∧ a ≤ u - tt := ⟨min (u - tt) l1, by omega, by omega⟩
    rw [ha]
    refine FW.take (by omega) (by omega) fun r2 d s lo2 hi2 => ?_
    walk_at "wp"
    refine FW.pick (by simp) (by simp) fun x d s hx => ?_
    obtain ⟨l2, rfl⟩ := nat_pick hx (by omega) (by omega) (by omega) lo2
    clear hx
    walk_at "wp"
    obtain ⟨b, hb', hb2'⟩ : ∃ b : Nat, min ((st : Int) + (a : Int)) (l2 : Int) = (b : Int) ∧ b ≤ st + a := ⟨min (st + a) l2, by omega, by omega⟩
    refine ⟨ps ++ [(a, b)], st + a - b, tt + a, d, s, some (.v .F (.int (0 + (i : Int)))), some (.v .F (.int (a : Int))), some (.v .F (.int (b : Int))), ?_, ?_, ?_, ?_, by omega, by omega, ?_, ?_⟩
    · rw [hb', List.map_append, show ((st + a - b : Nat) : Int) = (st : Int) + (a : Int) - (b : Int) by omega, show ((tt + a : Nat) : Int) = (tt : Int) + (a : Int) by omega]
      rfl
    · rw [List.length_append, hl]; rfl
    · rw [lastS_app, ← hst]; show ((st + a - b : Nat) : Int) = (st : Int) + (a : Int) - (b : Int); omega
    · rw [List.map_append, List.sum_append, htt]; simp
    · refine hw.snoc ?_
      rw [← hst]
      show 0 ≤ (st : Int) + (a : Int) - (b : Int)
      omega
    · intro p hp
      rcases List.mem_append.mp hp with hp | hp
      · exact hb p hp
      · rw [List.mem_singleton.mp hp]; show a ≤ 60 ∧ b ≤ 60; omega
  · rintro ρ ⟨ps, st, tt, d, s, v7, v8, v9, rfl, hl, hst, htt, h1, h2, hw, hb⟩
    rw [rngL_len, Int.toNat_natCast, Nat.zero_add] at hl
    walk_at "wp"
    exact h ps _ _ hl hw hb (by omega)
/-! texts, days in and out -/
abbrev logDs (ps : List (Nat × Nat)) : List D := [.tup (ps.map pD), lI (stk 0 ps), .tup ((dIn ps).map .int), .tup ((dOut ps).map .int)]
def nS (n : Nat) : PySem.Str := toString (n : Int)
def rowS (p : Nat × Nat) : PySem.Str := nS p.1 ++ (" " : PySem.Str) ++ nS p.2
def txtS (ps : List (Nat × Nat)) : PySem.Str := Txt.join ("\n" : PySem.Str) (ps.map rowS)
theorem nS_len : ∀ n : Nat, n ≤ 60 → (nS n).length ≤ 2 := by
  have h : ∀ n : Fin 61, (nS n.1).length ≤ 2 := by decide +kernel
  exact fun n hn => h ⟨n, by omega⟩
theorem sp_len : ((" " : PySem.Str)).length = 1 := by decide +kernel
theorem nl_len : (("\n" : PySem.Str)).length = 1 := by decide +kernel
theorem str_app_len (a b : PySem.Str) : (a ++ b).length = a.length + b.length := by
  show (a.cps ++ b.cps).size = a.cps.size + b.cps.size
  exact Array.size_append
theorem rowS_len {p : Nat × Nat} (h : p.1 ≤ 60 ∧ p.2 ≤ 60) : (rowS p).length ≤ 5 := by
  unfold rowS
  rw [str_app_len, str_app_len, sp_len]
  have := nS_len _ h.1
  have := nS_len _ h.2
  omega
theorem log_small {n : Nat} (h : n ≤ 60) : (n : Int).natAbs.log2 < 1920 := by
  have h : ∀ n : Fin 61, ((n.1 : Nat) : Int).natAbs.log2 < 1920 := by decide +kernel
  exact h ⟨n, by omega⟩
theorem row_sum {ps : List (Nat × Nat)} (hl : ps.length ≤ 100) (hb : ∀ p ∈ ps, p.1 ≤ 60 ∧ p.2 ≤ 60) : ((ps.map rowS).map (·.length)).sum + (ps.map rowS).length * ("\n" : PySem.Str).length ≤ 16777216 := by
  have h1 : ∀ m ∈ (ps.map rowS).map (·.length), m ≤ 5 := fun m hm => by
    rw [List.map_map] at hm
    obtain ⟨p, hp, rfl⟩ := List.mem_map.mp hm
    exact rowS_len (hb p hp)
  have h2 := sum_le_of h1
  rw [List.length_map, List.length_map] at h2
  rw [nl_len, List.length_map]
  omega
theorem row_ev {ρ : Ss} {p : Nat × Nat} {k k' : Kd} {a b : Nat} (h : p.1 ≤ 60 ∧ p.2 ≤ 60) (ha : ρ[a]? = some (some (.v (if k = .B then .B else .F) (.int (p.1 : Int))))) (hb : ρ[b]? = some (some (.v (if k = .B then .B else .F) (.int (p.2 : Int))))) :
    EW (eAdd (eAdd (eStrI (eVar a)) (eC (.str " "))) (eStrI (eVar b))) ρ (fun t ρ4 => FzD t fun d => d = .str (rowS p) ∧ ρ4 = ρ) X0 := by
  have h1 := nS_len _ h.1
  have h2 := nS_len _ h.2
  have hx : ∀ {i : Nat} {n : Nat} {P : PV.Tm → Ss → Prop}, ρ[i]? = some (some (.v (if k = .B then .B else .F) (.int (n : Int)))) → n ≤ 60 → P (.v .F (.str (nS n))) ρ → EW (eStrI (eVar i)) ρ P X0 := fun {i n P} hi hn hp => by
    refine EW.strI (EW.var hi ?_)
    by_cases hk : k = .B
    · rw [if_pos hk]
      exact VarW.xB ⟨_, _, Is.v, log_small hn, hp⟩
    · rw [if_neg hk]
      exact VarW.xF ⟨_, _, Is.v, log_small hn, hp⟩
  refine EW.add (EW.add (hx ha h.1 ?_))
  refine EW.c ?_
  refine AddW.ss Is.v Is.v (by rw [sp_len, sizeLine_eq]; omega) ?_
  refine hx hb h.2 ?_
  refine AddW.ss Is.v Is.v (by rw [str_app_len, sp_len, sizeLine_eq]; omega) ?_
  exact FzD.F ⟨rfl, rfl⟩
theorem FW.text {ps : List (Nat × Nat)} {P : PV.Tm → List PV.Tm → Prop} {X : Er → List PV.Tm → Prop} (hl : ps.length ≤ 100) (hb : ∀ p ∈ ps, p.1 ≤ 60 ∧ p.2 ≤ 60) (h : P (.v .F (.str (txtS ps))) []) : FW den__law_text [.v .B (.lst (ps.map pD))] P X := by
  refine FW.def (ρ0 := [some (.v .B (.lst (ps.map pD))), none, none]) rfl ?_
  unfold d__law_text
  refine SW.ret (EW.join (EW.c ⟨_, rfl, ?_⟩))
  refine EW.pairs2 (k := .B) (f1 := fun p : Nat × Nat => D.int (p.1 : Int)) (f2 := fun p => D.int (p.2 : Int)) (fun p => .str (rowS p)) (by decide) ?_
  walk_at "wp"
  refine ⟨ps, rfl, rfl, rfl, by rw [sizeLine_eq]; omega, fun p hp => ⟨_, _, rfl, rfl, row_ev (k := .B) (k' := .B) (hb p hp) rfl rfl⟩, ?_⟩
  rw [show (ps.map fun p => D.str (rowS p)) = (ps.map rowS).map D.str by rw [List.map_map]; rfl]
  refine ⟨_, _, Is.v, row_sum hl hb, ?_⟩
  walk_at "wp"
  exact h
theorem FW.logStr {ps : List (Nat × Nat)} {P : PV.Tm → List PV.Tm → Prop} {X : Er → List PV.Tm → Prop} (hl : ps.length ≤ 100) (hb : ∀ p ∈ ps, p.1 ≤ 60 ∧ p.2 ≤ 60) (h : P (.v .F (.str (txtS ps))) []) : FW den_Logx_strx [.v .B (.ins 3 (logDs ps))] P X := by
  refine FW.def (ρ0 := [some (.v .B (.ins 3 (logDs ps))), none, none]) rfl ?_
  unfold d_Logx_strx
  refine SW.ret (EW.join (EW.c ⟨_, rfl, ?_⟩))
  refine EW.pairs2 (k := .B) (f1 := fun p : Nat × Nat => D.int (p.1 : Int)) (f2 := fun p => D.int (p.2 : Int)) (fun p => .str (rowS p)) (by decide) ?_
  walk_at "wp"
  refine ⟨ps, rfl, rfl, rfl, by rw [sizeLine_eq]; omega, fun p hp => ⟨_, _, rfl, rfl, row_ev (k := .B) (k' := .B) (hb p hp) rfl rfl⟩, ?_⟩
  rw [show (ps.map fun p => D.str (rowS p)) = (ps.map rowS).map D.str by rw [List.map_map]; rfl]
  refine ⟨_, _, Is.v, row_sum hl hb, ?_⟩
  walk_at "wp"
  exact h
/-- the numbers of the days, each as often as f says -/
def rp (f : Nat × Nat → Nat) (ps : List (Nat × Nat)) : List Int := repP (((List.range ps.length).map fun i : Nat => (i : Int)).zip (ps.map f))
theorem lastS_sum : ∀ (ps : List (Nat × Nat)) (s : Int), lastS s ps = s + ((ps.map (·.1)).sum : Nat) - ((ps.map (·.2)).sum : Nat)
  | [], s => by simp [lastS]
  | p :: ps, s => by
    rw [lastS, lastS_sum ps]
    simp only [List.map_cons, List.sum_cons]
    omega
theorem flat_pD (p : Nat × Nat) : flat (pD p) = true := by simp [pD, PV.flat, PV.flat.flats]
theorem take_snoc {α : Type} {ps : List α} {i : Nat} {p : α} (h : ps[i]? = some p) : ps.take (i + 1) = ps.take i ++ [p] := by
  rw [List.take_add_one, h]
  rfl
/-! choices: the plain laws -/
theorem Lawful.last {ps : List (Nat × Nat)} (h : Lawful 0 ps) : 0 ≤ lastS 0 ps := by
  by_cases hne : ps = []
  · subst hne; exact Int.le_refl _
  · exact h _ (List.mem_of_getElem? (stk_last ps 0 hne))
end LW
namespace LW
open PySem L2 PV
local macro_rules | `(tactic| walk_at "set") => `(tactic| (repeat (first | with_reducible exact set_z | with_reducible apply set_s | exact set_z | apply set_s)))
local macro_rules | `(tactic| walk_at "is") => `(tactic| (first | exact Is.v | exact Is.loc rfl))
local macro_rules | `(tactic| walk_at "lt") => `(tactic| first | exact ltL rfl | omega | (simp only [List.length_cons, List.length_nil]; omega))
local macro_rules | `(tactic| walk_at "sz") => `(tactic| first | omega | (simp only [sizeLine_eq, List.length_append, List.length_cons, List.length_nil, List.length_map, List.length_replicate, List.length_reverse] at *; omega))
local macro_rules | `(tactic| walk_at "w1") => `(tactic| ((with_reducible apply And.intro); (focus (first | walk_at "sz" | exact rfl))))
local macro_rules | `(tactic| walk_at "w1") => `(tactic| ((with_reducible apply and3); (focus (exact rfl)); (focus (walk_at "lt")); (focus (walk_at "set"))))
local macro_rules | `(tactic| walk_at "w1") => `(tactic| ((with_reducible refine FzD.Bx ?_ ?_); (focus (exact flat_int))))
local macro_rules | `(tactic| walk_at "w1") => `(tactic| (with_reducible refine FzD.O ?_))
local macro_rules | `(tactic| walk_at "w1") => `(tactic| (with_reducible refine FzD.F ?_))
local macro_rules | `(tactic| walk_at "w1") => `(tactic| (with_reducible refine NotW.b ?_))
local macro_rules | `(tactic| walk_at "w1") => `(tactic| (with_reducible refine NotW.d ?_))
local macro_rules | `(tactic| walk_at "w1") => `(tactic| (with_reducible refine BoW.ff ?_))
local macro_rules | `(tactic| walk_at "w1") => `(tactic| (with_reducible refine BoW.tt ?_))
local macro_rules | `(tactic| walk_at "w1") => `(tactic| (with_reducible refine TW.tp ?_))
local macro_rules | `(tactic| walk_at "w1") => `(tactic| ((with_reducible apply par1); (focus (repeat (first | with_reducible exact st0 | (apply st1; (focus (exact rfl)); (focus (walk_at "lt")); (focus (walk_at "set"))))))))
local macro_rules | `(tactic| walk_at "w1") => `(tactic| (with_reducible refine TW.tup2F ?_))
local macro_rules | `(tactic| walk_at "w1") => `(tactic| (with_reducible refine TW.tup2B ?_))
local macro_rules | `(tactic| walk_at "w1") => `(tactic| (with_reducible refine TsW.cons ?_))
local macro_rules | `(tactic| walk_at "w1") => `(tactic| (with_reducible refine TsW.nil ?_))
local macro_rules | `(tactic| walk_at "w1") => `(tactic| ((with_reducible apply TW.n); (focus (exact rfl)); (focus (walk_at "lt")); (focus (walk_at "set"))))
local macro_rules | `(tactic| walk_at "w1") => `(tactic| ((with_reducible refine R1W.go ?_ ?_); (focus omega)))
local macro_rules | `(tactic| walk_at "w1") => `(tactic| (with_reducible refine ItsW.tupB ?_))
local macro_rules | `(tactic| walk_at "w1") => `(tactic| (with_reducible refine ItsW.tupF ?_))
local macro_rules | `(tactic| walk_at "w1") => `(tactic| (with_reducible refine ItsW.lstO ?_))
local macro_rules | `(tactic| walk_at "w1") => `(tactic| (with_reducible refine ItsW.lstB ?_))
local macro_rules | `(tactic| walk_at "w1") => `(tactic| (with_reducible refine ItsW.lstF ?_))
local macro_rules | `(tactic| walk_at "w1") => `(tactic| (with_reducible refine IW.r1 ?_))
local macro_rules | `(tactic| walk_at "w1") => `(tactic| (with_reducible refine IW.seq ?_))
local macro_rules | `(tactic| walk_at "w1") => `(tactic| ((with_reducible apply PtW.io); (focus (walk_at "lt")); (focus (walk_at "set"))))
local macro_rules | `(tactic| walk_at "w1") => `(tactic| (with_reducible refine PtW.f ?_))
local macro_rules | `(tactic| walk_at "w1") => `(tactic| (with_reducible refine PtW.b ?_))
local macro_rules | `(tactic| walk_at "w1") => `(tactic| (with_reducible refine PtW.nil ?_))
local macro_rules | `(tactic| walk_at "w1") => `(tactic| (with_reducible refine PaW.fF ?_))
local macro_rules | `(tactic| walk_at "w1") => `(tactic| ((with_reducible apply PaW.bOb); (focus (exact rfl)); (focus (repeat (first | exact mapD_n | apply mapD_c)))))
local macro_rules | `(tactic| walk_at "w1") => `(tactic| ((with_reducible apply PaW.b); (focus (walk_at "is"))))
local macro_rules | `(tactic| walk_at "w1") => `(tactic| (with_reducible refine PaW.io ?_))
local macro_rules | `(tactic| walk_at "w1") => `(tactic| (with_reducible refine PaW.nil ?_))
local macro_rules | `(tactic| walk_at "w1") => `(tactic| ((with_reducible apply PuW.io); (focus (exact rfl)); (focus (walk_at "set"))))
local macro_rules | `(tactic| walk_at "w1") => `(tactic| (with_reducible refine PuW.f ?_))
local macro_rules | `(tactic| walk_at "w1") => `(tactic| (with_reducible refine PuW.b ?_))
local macro_rules | `(tactic| walk_at "w1") => `(tactic| (with_reducible refine PuW.nil ?_))
local macro_rules | `(tactic| walk_at "w1") => `(tactic| (with_reducible refine CaW.go ?_))
local macro_rules | `(tactic| walk_at "w1") => `(tactic| ((with_reducible refine UnW.xOb ?_ ?_); (focus (repeat (first | exact unBs_nilE | refine unBs_F ?_ | refine unBs_O ?_)))))
local macro_rules | `(tactic| walk_at "w1") => `(tactic| ((with_reducible refine UnW.xB ?_ ?_); (focus (exact flat_str))))
local macro_rules | `(tactic| walk_at "w1") => `(tactic| ((with_reducible refine UnW.xB ?_ ?_); (focus (exact flat_int))))
local macro_rules | `(tactic| walk_at "w1") => `(tactic| (with_reducible refine UnW.xO ?_))
local macro_rules | `(tactic| walk_at "w1") => `(tactic| (with_reducible refine UnW.xF ?_))
local macro_rules | `(tactic| walk_at "w1") => `(tactic| ((with_reducible apply GiW.cons); (focus (exact rfl)); (focus (walk_at "set"))))
local macro_rules | `(tactic| walk_at "w1") => `(tactic| (with_reducible refine GiW.nil ?_))
local macro_rules | `(tactic| walk_at "w1") => `(tactic| (with_reducible refine EW.pow ?_))
local macro_rules | `(tactic| walk_at "w1") => `(tactic| (with_reducible refine EW.abs ?_))
local macro_rules | `(tactic| walk_at "w1") => `(tactic| ((with_reducible apply len_str); (focus (walk_at "is")); (focus (rw [sizeLine_eq]; omega))))
local macro_rules | `(tactic| walk_at "w1") => `(tactic| ((with_reducible apply len_scr); (focus (walk_at "is"))))
local macro_rules | `(tactic| walk_at "w1") => `(tactic| ((with_reducible apply len_tup); (focus (walk_at "is"))))
local macro_rules | `(tactic| walk_at "w1") => `(tactic| ((with_reducible apply len_lst); (focus (walk_at "is"))))
local macro_rules | `(tactic| walk_at "w1") => `(tactic| ((with_reducible apply SW.aug); (focus (exact rfl))))
local macro_rules | `(tactic| walk_at "w1") => `(tactic| ((with_reducible apply SW.faug); (focus (exact rfl)); (focus (exact rfl))))
local macro_rules | `(tactic| walk_at "w1") => `(tactic| ((with_reducible apply fst4); (focus (exact rfl)); (focus (walk_at "lt")); (focus (repeat (first | exact setAt_z | exact setAt_n | apply setAt_s))); (focus (walk_at "set"))))
local macro_rules | `(tactic| walk_at "w1") => `(tactic| ((with_reducible apply lm5); (focus (exact rfl)); (focus (exact rfl)); (focus (walk_at "sz")); (focus (walk_at "set"))))
local macro_rules | `(tactic| walk_at "w1") => `(tactic| ((with_reducible apply EW.lm); (focus (exact rfl))))
local macro_rules | `(tactic| walk_at "w1") => `(tactic| ((with_reducible apply sub5); (focus (exact rfl)); (focus (first | exact ix0 rfl | exact ix1 rfl)); (focus (walk_at "set")); (focus (walk_at "set"))))
local macro_rules | `(tactic| walk_at "w1") => `(tactic| ((with_reducible apply I1W.go); (focus (walk_at "is"))))
local macro_rules | `(tactic| walk_at "w1") => `(tactic| ((with_reducible apply TW.sub); (focus (exact rfl))))
local macro_rules | `(tactic| walk_at "w1") => `(tactic| ((with_reducible apply IdxW.tF); (focus (walk_at "is")); (focus (walk_at "is")); (focus (exact rfl))))
local macro_rules | `(tactic| walk_at "w1") => `(tactic| ((with_reducible apply IdxW.tB); (focus (walk_at "is")); (focus (walk_at "is")); (focus (exact rfl))))
local macro_rules | `(tactic| walk_at "w1") => `(tactic| ((with_reducible apply IdxW.lO); (focus (walk_at "is")); (focus (walk_at "is")); (focus (exact rfl))))
local macro_rules | `(tactic| walk_at "w1") => `(tactic| ((with_reducible apply IdxW.lF); (focus (walk_at "is")); (focus (walk_at "is")); (focus (exact rfl))))
local macro_rules | `(tactic| walk_at "w1") => `(tactic| ((with_reducible apply IdxW.lB); (focus (walk_at "is")); (focus (walk_at "is")); (focus (exact rfl))))
local macro_rules | `(tactic| walk_at "w1") => `(tactic| ((with_reducible apply FldW.insF); (focus (exact rfl))))
local macro_rules | `(tactic| walk_at "w1") => `(tactic| ((with_reducible apply FldW.insB); (focus (exact rfl))))
local macro_rules | `(tactic| walk_at "w1") => `(tactic| ((with_reducible apply FldW.ob); (focus (exact rfl)); (focus (exact rfl))))
local macro_rules | `(tactic| walk_at "w1") => `(tactic| ((with_reducible apply MulW.ii); (focus (walk_at "is")); (focus (walk_at "is")); (focus omega)))
local macro_rules | `(tactic| walk_at "w1") => `(tactic| ((with_reducible apply AddW.ii); (focus (walk_at "is")); (focus (walk_at "is"))))
local macro_rules | `(tactic| walk_at "w1") => `(tactic| ((with_reducible apply IIW.go); (focus (walk_at "is")); (focus (walk_at "is"))))
local macro_rules | `(tactic| walk_at "w1") => `(tactic| (with_reducible refine FzsW.O ?_))
local macro_rules | `(tactic| walk_at "w1") => `(tactic| (with_reducible refine FzsW.F ?_))
local macro_rules | `(tactic| walk_at "w1") => `(tactic| (with_reducible refine FzsW.nil ?_))
local macro_rules | `(tactic| walk_at "w1") => `(tactic| (with_reducible refine AW.cons ?_))
local macro_rules | `(tactic| walk_at "w1") => `(tactic| (with_reducible refine AW.nil ?_))
local macro_rules | `(tactic| walk_at "w1") => `(tactic| ((with_reducible apply MvW.loc); (focus (exact rfl)); (focus (walk_at "set"))))
local macro_rules | `(tactic| walk_at "w1") => `(tactic| (with_reducible refine MvW.v ?_))
local macro_rules | `(tactic| walk_at "w1") => `(tactic| ((with_reducible apply FzW.loc); (focus (exact rfl)); (focus (walk_at "set"))))
local macro_rules | `(tactic| walk_at "w1") => `(tactic| ((with_reducible refine FzW.Bx ?_ ?_); (focus (exact flat_str))))
local macro_rules | `(tactic| walk_at "w1") => `(tactic| ((with_reducible refine FzW.Bx ?_ ?_); (focus (exact flat_int))))
local macro_rules | `(tactic| walk_at "w1") => `(tactic| (with_reducible refine FzW.ob ?_))
local macro_rules | `(tactic| walk_at "w1") => `(tactic| (with_reducible refine FzW.O ?_))
local macro_rules | `(tactic| walk_at "w1") => `(tactic| (with_reducible refine FzW.F ?_))
local macro_rules | `(tactic| walk_at "w1") => `(tactic| (with_reducible refine EW.fz ?_))
local macro_rules | `(tactic| walk_at "w1") => `(tactic| (with_reducible refine EW.mv ?_))
local macro_rules | `(tactic| walk_at "w1") => `(tactic| (with_reducible refine EW.tuple ?_))
local macro_rules | `(tactic| walk_at "w1") => `(tactic| (with_reducible refine EW.list ?_))
local macro_rules | `(tactic| walk_at "w1") => `(tactic| (with_reducible refine EW.sum ?_))
local macro_rules | `(tactic| walk_at "w1") => `(tactic| (with_reducible refine EW.ne ?_))
local macro_rules | `(tactic| walk_at "w1") => `(tactic| (with_reducible refine EW.eq ?_))
local macro_rules | `(tactic| walk_at "w1") => `(tactic| (with_reducible refine asI4 ?_))
local macro_rules | `(tactic| walk_at "w1") => `(tactic| (with_reducible refine OW.someI ?_))
local macro_rules | `(tactic| walk_at "w1") => `(tactic| (with_reducible refine OW.none ?_))
local macro_rules | `(tactic| walk_at "w1") => `(tactic| (with_reducible refine EW.sl ?_))
local macro_rules | `(tactic| walk_at "w1") => `(tactic| ((with_reducible apply ExtW.F); (focus (exact rfl)); (focus (walk_at "sz")); (focus (walk_at "set"))))
local macro_rules | `(tactic| walk_at "w1") => `(tactic| (with_reducible refine IW.zip ?_))
local macro_rules | `(tactic| walk_at "w1") => `(tactic| ((with_reducible apply SW.augSub); (focus (exact rfl))))
local macro_rules | `(tactic| walk_at "w1") => `(tactic| ((with_reducible apply SW.ext); (focus (exact rfl))))
local macro_rules | `(tactic| walk_at "w1") => `(tactic| (with_reducible refine EW.neg ?_))
local macro_rules | `(tactic| walk_at "w1") => `(tactic| (with_reducible refine EW.tupR ?_))
local macro_rules | `(tactic| walk_at "w1") => `(tactic| (with_reducible refine EW.sumA ?_))
local macro_rules | `(tactic| walk_at "w1") => `(tactic| (with_reducible refine EW.isN ?_))
local macro_rules | `(tactic| walk_at "w1") => `(tactic| (with_reducible refine EW.comp1 ?_))
local macro_rules | `(tactic| walk_at "w1") => `(tactic| (with_reducible refine EW.lst ?_))
local macro_rules | `(tactic| walk_at "w1") => `(tactic| (with_reducible refine EW.tup ?_))
local macro_rules | `(tactic| walk_at "w1") => `(tactic| (with_reducible refine EW.not ?_))
local macro_rules | `(tactic| walk_at "w1") => `(tactic| (with_reducible refine EW.or ?_))
local macro_rules | `(tactic| walk_at "w1") => `(tactic| (with_reducible refine EW.and ?_))
local macro_rules | `(tactic| walk_at "w1") => `(tactic| (with_reducible refine EW.ifx ?_))
local macro_rules | `(tactic| walk_at "w1") => `(tactic| (with_reducible refine EW.fld ?_))
local macro_rules | `(tactic| walk_at "w1") => `(tactic| (with_reducible refine EW.make ?_))
local macro_rules | `(tactic| walk_at "w1") => `(tactic| (with_reducible refine EW.call ?_))
local macro_rules | `(tactic| walk_at "w1") => `(tactic| (with_reducible refine EW.len ?_))
local macro_rules | `(tactic| walk_at "w1") => `(tactic| (with_reducible refine EW.min2 ?_))
local macro_rules | `(tactic| walk_at "w1") => `(tactic| (with_reducible refine EW.max2 ?_))
local macro_rules | `(tactic| walk_at "w1") => `(tactic| (with_reducible refine EW.idx ?_))
local macro_rules | `(tactic| walk_at "w1") => `(tactic| (with_reducible refine EW.mul ?_))
local macro_rules | `(tactic| walk_at "w1") => `(tactic| (with_reducible refine EW.add ?_))
local macro_rules | `(tactic| walk_at "w1") => `(tactic| (with_reducible refine EW.sub ?_))
local macro_rules | `(tactic| walk_at "w1") => `(tactic| (with_reducible refine EW.div ?_))
local macro_rules | `(tactic| walk_at "w1") => `(tactic| (with_reducible refine EW.mod ?_))
local macro_rules | `(tactic| walk_at "w1") => `(tactic| (with_reducible refine EW.lt ?_))
local macro_rules | `(tactic| walk_at "w1") => `(tactic| (with_reducible refine EW.gt ?_))
local macro_rules | `(tactic| walk_at "w1") => `(tactic| (with_reducible refine EW.strO ?_))
local macro_rules | `(tactic| walk_at "w1") => `(tactic| (with_reducible refine EW.join ?_))
local macro_rules | `(tactic| walk_at "w1") => `(tactic| (with_reducible refine EW.all ?_))
local macro_rules | `(tactic| walk_at "w1") => `(tactic| (with_reducible refine EW.strI ?_))
local macro_rules | `(tactic| walk_at "w1") => `(tactic| (with_reducible refine EW.nm ?_))
local macro_rules | `(tactic| walk_at "w1") => `(tactic| (with_reducible refine EW.isB ?_))
local macro_rules | `(tactic| walk_at "w1") => `(tactic| (with_reducible refine EW.repr2 ?_))
local macro_rules | `(tactic| walk_at "w1") => `(tactic| ((with_reducible apply TW.subK); (focus (exact rfl))))
local macro_rules | `(tactic| walk_at "w1") => `(tactic| (with_reducible refine SW.raise ?_))
local macro_rules | `(tactic| walk_at "w1") => `(tactic| (with_reducible refine EW.mulS ?_))
local macro_rules | `(tactic| walk_at "w1") => `(tactic| (with_reducible refine EW.notInT ?_))
local macro_rules | `(tactic| walk_at "w1") => `(tactic| (with_reducible refine EW.cm ?_))
local macro_rules | `(tactic| walk_at "w1") => `(tactic| (with_reducible refine IW.txt ?_))
local macro_rules | `(tactic| walk_at "w1") => `(tactic| (with_reducible refine EW.ixS ?_))
local macro_rules | `(tactic| walk_at "w1") => `(tactic| (with_reducible refine EW.inT ?_))
local macro_rules | `(tactic| walk_at "w1") => `(tactic| (with_reducible refine EW.intT ?_))
local macro_rules | `(tactic| walk_at "w1") => `(tactic| (with_reducible refine EW.split ?_))
local macro_rules | `(tactic| walk_at "w1") => `(tactic| (with_reducible refine EW.own ?_))
local macro_rules | `(tactic| walk_at "w1") => `(tactic| (with_reducible refine EW.isE ?_))
local macro_rules | `(tactic| walk_at "w1") => `(tactic| (with_reducible refine EW.err ?_))
local macro_rules | `(tactic| walk_at "w1") => `(tactic| (with_reducible refine EW.inE ?_))
local macro_rules | `(tactic| walk_at "w1") => `(tactic| (with_reducible refine IW.enA ?_))
local macro_rules | `(tactic| walk_at "w1") => `(tactic| ((with_reducible apply TW.subX); (focus (exact rfl))))
local macro_rules | `(tactic| walk_at "w1") => `(tactic| (with_reducible refine SW.par ?_))
local macro_rules | `(tactic| walk_at "w1") => `(tactic| (with_reducible refine SW.fst ?_))
local macro_rules | `(tactic| walk_at "w1") => `(tactic| (with_reducible refine SW.for ?_))
local macro_rules | `(tactic| walk_at "w1") => `(tactic| (with_reducible refine SW.expr ?_))
local macro_rules | `(tactic| walk_at "w1") => `(tactic| (with_reducible refine SW.nil ?_))
local macro_rules | `(tactic| walk_at "w1") => `(tactic| (with_reducible refine SW.asg ?_))
local macro_rules | `(tactic| walk_at "w1") => `(tactic| (with_reducible refine SW.ret ?_))
local macro_rules | `(tactic| walk_at "w1") => `(tactic| (with_reducible refine SW.ite ?_))
local macro_rules | `(tactic| walk_at "w1") => `(tactic| ((with_reducible refine SW.set ?_)))
local macro_rules | `(tactic| walk_at "w1") => `(tactic| (with_reducible refine SW.seq ?_))
local macro_rules | `(tactic| walk_at "w1") => `(tactic| (with_reducible refine VarW.xOb ?_))
local macro_rules | `(tactic| walk_at "w1") => `(tactic| (with_reducible refine VarW.xO ?_))
local macro_rules | `(tactic| walk_at "w1") => `(tactic| (with_reducible refine VarW.xB ?_))
local macro_rules | `(tactic| walk_at "w1") => `(tactic| (with_reducible refine VarW.xF ?_))
local macro_rules | `(tactic| walk_at "w1") => `(tactic| ((with_reducible apply EW.var); (focus (exact rfl))))
local macro_rules | `(tactic| walk_at "w1") => `(tactic| (with_reducible refine EW.tr ?_))
local macro_rules | `(tactic| walk_at "w1") => `(tactic| (with_reducible refine EW.n ?_))
local macro_rules | `(tactic| walk_at "w1") => `(tactic| (with_reducible refine EW.z ?_))
local macro_rules | `(tactic| walk_at "w1") => `(tactic| (with_reducible refine EW.c ?_))
local macro_rules | `(tactic| walk_at "wp") => `(tactic| repeat (walk_at "w1"))
local macro_rules | `(tactic| walk_at "cp") => `(tactic| (refine ⟨_, (by walk_at "set"), ?_⟩; walk_at "wp"; all_goals (first | exact ⟨rfl, rfl⟩ | exact rfl)))
local macro_rules | `(tactic| walk_at "okB") => `(tactic| repeat (first | with_reducible exact okB_nil | with_reducible refine okB_v ?_ | with_reducible refine okB_no ?_ | (with_reducible apply okB_lo; focus assumption) | (with_reducible apply okB_t; focus (first | rfl | assumption | (simp only [noB, noBs, Bool.and_self]; done)))))
local macro_rules | `(tactic| walk_at "okF") => `(tactic| repeat (first | with_reducible exact okFs_nil | with_reducible refine okFs_no ?_ | (with_reducible apply okFs_lo; focus assumption) | (with_reducible apply okFs_t; focus (first | rfl | exact okF_scr _ | (simp only [okF, noB, noBs, Bool.and_self]; done)))))
theorem FW.stocksBad {p0 p1 : List (Nat × Nat)} {b : Nat × Nat} {P : PV.Tm → List PV.Tm → Prop} {X : Er → List PV.Tm → Prop} (hl : (p0 ++ b :: p1).length ≤ 1000) (hw : Lawful 0 p0) (hbad : lastS 0 p0 + b.1 - b.2 < 0) (h : X ⟨2, [.int (p0.length : Int)]⟩ []) : FW den_stocks_of [.v .B (.tup ((p0 ++ b :: p1).map pD))] P X := by
  generalize hq : p0 ++ b :: p1 = ps at *
  refine FW.def (ρ0 := [some (.v .B (.tup (ps.map pD))), none, none, none, none]) rfl ?_
  unfold d_stocks_of
  walk_at "wp"
  refine ⟨_, rfl, ?_⟩
  rw [enum_map]
  refine ForW.data (fun pre ρ => ∃ v2 v3 v4, ρ = [some (.v .B (.tup (ps.map pD))), some (.v .O (lI (stk 0 (pre.map (·.2))))), v2, v3, v4] ∧ pre.length ≤ p0.length) (ps.mapIdx fun i x => (0 + i, x)) ⟨_, _, _, rfl, Nat.zero_le _⟩ ?_ ?_
  · rintro pre q suf ρ hp ⟨v2, v3, v4, rfl, hpl⟩
    have hps : ps = pre.map (·.2) ++ q.2 :: suf.map (·.2) := by
      have := congrArg (List.map (·.2)) hp
      rw [idx_snd, List.map_append, List.map_cons] at this
      exact this
    have hq1 : q.1 = pre.length := by
      have h1 : (ps.mapIdx fun i x => (0 + i, x))[pre.length]? = some q := by rw [hp]; simp
      rw [List.getElem?_mapIdx] at h1
      cases h2 : ps[pre.length]? with
      | none => rw [h2] at h1; cases h1
      | some x => rw [h2] at h1; cases h1; simp
    have hlen : (stk 0 (pre.map (·.2))).length ≤ 1000 := by
      rw [stk_len]
      have := congrArg List.length hps
      rw [List.length_append, List.length_cons] at this
      omega
    have hcase : (pre.length < p0.length ∧ 0 ≤ lastS 0 (pre.map (·.2)) + q.2.1 - q.2.2) ∨ (pre.length = p0.length ∧ lastS 0 (pre.map (·.2)) + q.2.1 - q.2.2 < 0) := by
      have h2 : ∀ (as : List (Nat × Nat)) (b : Nat × Nat) (cs : List (Nat × Nat)) (s : Int), (lastS s as + b.1 - b.2) ∈ stk s (as ++ b :: cs) := by
        intro as
        induction as with
        | nil => intro b cs s; simp [stk, lastS]
        | cons a as ih => intro b cs s; exact List.mem_cons_of_mem _ (ih b cs _)
      have hl2 : (pre.map (·.2)).length = pre.length := List.length_map _
      rw [← hq] at hps
      rcases List.append_eq_append_iff.mp hps with ⟨a, e1, e2⟩ | ⟨c, e1, e2⟩
      · have : a = [] := by
          have := congrArg List.length e1
          rw [List.length_append] at this
          exact List.eq_nil_of_length_eq_zero (by omega)
        subst this
        rw [List.append_nil] at e1
        cases e2
        exact .inr ⟨by rw [← hl2, e1], by rw [e1]; exact hbad⟩
      · cases c with
        | nil =>
          rw [List.append_nil] at e1
          cases e2
          exact .inr ⟨by rw [← hl2, e1], by rw [← e1]; exact hbad⟩
        | cons x c =>
          have e3 := (List.cons.inj e2).1
          rw [← e3] at e1
          refine .inl ⟨?_, hw _ (by rw [e1]; exact h2 _ _ _ _)⟩
          have := congrArg List.length e1
          rw [List.length_append, List.length_cons] at this
          omega
    rw [List.map_append, List.length_append, List.length_singleton]
    show TW _ _ _ fun ρ1 => SW _ _ (fun ρ2 => ∃ v2 v3 v4, ρ2 = [some (.v .B (.tup (ps.map pD))), some (.v .O (lI (stk 0 (pre.map (·.2) ++ [q.2])))), v2, v3, v4] ∧ pre.length + 1 ≤ p0.length) _ _ (fun ρ2 => ∃ v2 v3 v4, ρ2 = [some (.v .B (.tup (ps.map pD))), some (.v .O (lI (stk 0 (pre.map (·.2) ++ [q.2])))), v2, v3, v4] ∧ pre.length + 1 ≤ p0.length) _
    rw [stk_app, hq1]
    generalize hpm : pre.map (·.2) = pm at *
    have tail : ∀ (old : Int) (N : Ss → Prop), old = lastS 0 pm → N [some (.v .B (.tup (ps.map pD))), some (.v .O (lI (stk 0 pm ++ [lastS 0 pm + q.2.1 - q.2.2]))), some (.v .B (.int pre.length)), some (.v .B (.int q.2.1)), some (.v .B (.int q.2.2))] → N [some (.v .B (.tup (ps.map pD))), some (.v .O (.lst ((stk 0 pm).map D.int ++ [.int (old + q.2.1 - q.2.2)]))), some (.v .B (.int pre.length)), some (.v .B (.int q.2.1)), some (.v .B (.int q.2.2))] := fun old N e h => by
      subst e
      have : lI (stk 0 pm ++ [lastS 0 pm + q.2.1 - q.2.2]) = .lst ((stk 0 pm).map D.int ++ [.int (lastS 0 pm + q.2.1 - q.2.2)]) := congrArg D.lst List.map_append
      rw [this] at h
      exact h
    have chk : ∀ (old : Int), old = lastS 0 pm → atI ((stk 0 pm).map D.int ++ [D.int (old + q.2.1 - q.2.2)]) (-1) = some (.int (lastS 0 pm + q.2.1 - q.2.2)) := fun old e => atI_neg1 (by rw [e]; simp)
    walk_at "wp"
    refine ⟨_, _, _, _, _, Is.loc rfl, Is.v, neD_lints _ [], ?_⟩
    refine BoW.d (fun hne => ?_) fun hne => ?_
    · have hpn : pm ≠ [] := fun z => hne (by rw [z]; rfl)
      walk_at "wp"
      refine IdxW.lO (by walk_at "is") (by walk_at "is") (atI_neg1 (x := D.int (lastS 0 pm)) (by rw [List.length_map, stk_len, List.getElem?_map, stk_last _ _ hpn]; rfl)) ?_
      walk_at "wp"
      refine IdxW.lO (by walk_at "is") (by walk_at "is") (chk _ rfl) ?_
      walk_at "wp"
      refine BoW.d (fun hb => ?_) fun hb => ?_
      · rcases hcase with ⟨_, hc⟩ | ⟨hc, _⟩
        · exact absurd hb (by omega)
        · rw [hc]
          walk_at "wp"
          refine ⟨_, rfl, ?_⟩
          walk_at "wp"
          exact h
      · rcases hcase with ⟨hc, _⟩ | ⟨_, hc⟩
        · walk_at "wp"
          exact tail _ (fun ρ => ∃ v2 v3 v4, ρ = [some (.v .B (.tup (ps.map pD))), some (.v .O (lI (stk 0 pm ++ [lastS 0 pm + q.2.1 - q.2.2]))), v2, v3, v4] ∧ pre.length + 1 ≤ p0.length) rfl ⟨_, _, _, rfl, hc⟩
        · exact absurd hc (by omega)
    · have hpn : pm = [] := stk_ne.mp (Decidable.not_not.mp hne)
      have e0 : (0 : Int) = lastS 0 pm := by rw [hpn]; rfl
      walk_at "wp"
      refine IdxW.lO (by walk_at "is") (by walk_at "is") (chk _ e0) ?_
      walk_at "wp"
      refine BoW.d (fun hb => ?_) fun hb => ?_
      · rcases hcase with ⟨_, hc⟩ | ⟨hc, _⟩
        · exact absurd hb (by omega)
        · rw [hc]
          walk_at "wp"
          refine ⟨_, rfl, ?_⟩
          walk_at "wp"
          exact h
      · rcases hcase with ⟨hc, _⟩ | ⟨_, hc⟩
        · walk_at "wp"
          exact tail _ (fun ρ => ∃ v2 v3 v4, ρ = [some (.v .B (.tup (ps.map pD))), some (.v .O (lI (stk 0 pm ++ [lastS 0 pm + q.2.1 - q.2.2]))), v2, v3, v4] ∧ pre.length + 1 ≤ p0.length) e0 ⟨_, _, _, rfl, hc⟩
        · exact absurd hc (by omega)
  · rintro ρ ⟨v2, v3, v4, rfl, hle⟩
    rw [List.length_mapIdx, ← hq, List.length_append, List.length_cons] at hle
    omega
/-! k01: logs of lists or tuples, read back from their text -/
def DsL (ps : List (Nat × Nat)) (d : D) : Prop := d = .lst (ps.map pD) ∨ d = .tup (ps.map pD)
def d_lg1 : Sm := (sFst 3 0 0 (eF (eTuple (eComp (itSeq (eVar 1)) [4] (tgN 4) eTrue (eTuple (eVar 4))))))
theorem lg1_ok {ps : List (Nat × Nat)} {dd : D} (hl : ps.length ≤ 100) (hd : DsL ps dd) {N : Ss → Prop} {R : PV.Tm → Ss → Prop} {B C : Ss → Prop} {X : PX} (hN : N [some (.ob 3 [.v .F (.tup (ps.map pD))]), some (.v .B dd), none, none, none, none, none]) :
    SW d_lg1 [some (.ob 3 []), some (.v .B dd), none, none, none, none, none] N R B C X := by
  unfold d_lg1
  rcases hd with rfl | rfl
  all_goals
    walk_at "wp"
    rw [List.map_map]
    refine CpW.map (inj := PV.Tm.v .B ∘ pD) (fun _ => true) pD ps (fun _ => rfl) rfl (fun a _ => by walk_at "cp") (fun a _ _ => ?_) ?_ ?_
    · refine ⟨_, by walk_at "set", ?_⟩
      show EW _ [some (.ob 3 []), _, none, none, some (.v .B (.tup [.int a.1, .int a.2])), none, none] _ _
      walk_at "wp"
      refine ⟨_, _, .inr Is.v, by unfold elk; simp [flat_int], ?_⟩
      walk_at "wp"
      all_goals first | exact ⟨rfl, rfl⟩ | exact rfl
    · rw [filt_true, List.length_map, sizeLine_eq]; omega
    rw [filt_true]
    refine ⟨_, _, .inl Is.v, elkO, ?_⟩
    walk_at "wp"
    exact hN
theorem FW.log2 {ps : List (Nat × Nat)} {dd : D} {P : PV.Tm → List PV.Tm → Prop} {X : Er → List PV.Tm → Prop} (hd : DsL ps dd) (hne : ps ≠ []) (hl : ps.length ≤ 100) (hb : ∀ p ∈ ps, p.1 ≤ 60 ∧ p.2 ≤ 60) (hw : Lawful 0 ps) (h : P (.v .F .non) [.ob 3 (logF ps)]) : FW den_Logx_initx [.ob 3 [], .v .B dd] P X := by
  have hpos : 0 < ps.length := List.length_pos_iff.mpr hne
  have hlast : 0 ≤ lastS 0 ps := hw _ (List.mem_of_getElem? (stk_last ps 0 hne))
  have hle := lastS_le (M := 60) (s := 0) fun p hp => (hb p hp).1
  have hls : lastS 0 ps ≤ 6000 := by omega
  refine FW.def (ρ0 := [some (.ob 3 []), some (.v .B dd), none, none, none, none, none]) rfl ?_
  unfold d_Logx_initx
  refine SW.seq ?_
  refine lg1_ok hl hd ?_
  walk_at "wp"
  refine FW.stocks (by omega) hw ?_
  walk_at "wp"
  refine EW.pairs (k := .F) (f1 := fun p : Nat × Nat => D.int (p.1 : Int)) (f2 := fun p => D.int (p.2 : Int)) (fun p => D.int (p.2 : Int)) (by decide) ?_
  walk_at "wp"
  refine ⟨ps, rfl, rfl, rfl, rfl, by rw [sizeLine_eq]; omega, fun p _ => ⟨_, _, by walk_at "set", by walk_at "set", ?_⟩, ?_⟩
  · show EW _ [some (.ob 3 [.v .F (.tup (ps.map pD)), .v .F (lI (stk 0 ps))]), some (.v .B dd), none, none, none, some (.v .F (.int (p.1 : Int))), some (.v .F (.int (p.2 : Int)))] _ _
    walk_at "wp"
    all_goals first | exact ⟨rfl, rfl⟩ | exact rfl
  walk_at "wp"
  have eL : (ps.map fun p => D.int (p.2 : Int)) = ((ps.map (·.2)).map fun n : Nat => D.int (n : Int)) := by rw [List.map_map]; rfl
  rw [eL]
  have hg := last_get (fun p => p.2) 0 ps hne
  refine ⟨_, _, _, ((ps.map (·.2)).getD (ps.length - 1) 0 : Nat), rfl, rfl, atI_neg1 (by rw [List.length_map, List.length_map, List.getElem?_map, hg]; rfl), ?_⟩
  walk_at "wp"
  refine IdxW.lF (d := .int (lastS 0 ps)) (by walk_at "is") (by walk_at "is") (atI_neg1 (by rw [List.length_map, stk_len, List.getElem?_map, stk_last _ _ hne]; rfl)) ?_
  refine ⟨_, _, _, ps.length - 1, rfl, rfl, by rw [List.length_map, List.length_map]; exact ix_neg1 hpos, _, by walk_at "set", ?_⟩
  have eC2 : ((ps.map (·.2)).map fun n : Nat => D.int (n : Int)).set (ps.length - 1) (.int (((ps.map (·.2)).getD (ps.length - 1) 0 : Nat) + lastS 0 ps)) = (closed ps).map fun n : Nat => D.int (n : Int) := by
    unfold closed
    rw [List.map_set]
    congr 2
    rw [Int.natCast_add, Int.toNat_of_nonneg hlast]
  show SW _ [_, _, some (.v .O (.lst (((ps.map (·.2)).map fun n : Nat => D.int (n : Int)).set (ps.length - 1) (.int (((ps.map (·.2)).getD (ps.length - 1) 0 : Nat) + lastS 0 ps))))), _, _, _, _] _ _ _ _ _
  rw [eC2]
  walk_at "wp"
  rw [List.length_map]
  refine ⟨_, _, _, _, _, Is.v, Is.v, opRg_n (by omega), ?_⟩
  rw [if_neg Bool.false_ne_true]
  walk_at "wp"
  refine EW.pairs (k := .F) (f1 := fun p : Nat × Nat => D.int (p.1 : Int)) (f2 := fun p => D.int (p.2 : Int)) (fun p => D.int (p.1 : Int)) (by decide) ?_
  walk_at "wp"
  refine ⟨ps, rfl, rfl, rfl, rfl, by rw [sizeLine_eq]; omega, fun p _ => ⟨_, _, by walk_at "set", by walk_at "set", ?_⟩, ?_⟩
  · show EW _ [some (.ob 3 [.v .F (.tup (ps.map pD)), .v .F (lI (stk 0 ps))]), some (.v .B dd), some (.v .O (.lst ((closed ps).map fun n : Nat => D.int (n : Int)))), some (.v .O (lI (rgI ps.length))), none, some (.v .F (.int (p.1 : Int))), some (.v .F (.int (p.2 : Int)))] _ _
    walk_at "wp"
    all_goals first | exact ⟨rfl, rfl⟩ | exact rfl
  walk_at "wp"
  have eI : (ps.map fun p => D.int (p.1 : Int)) = ((ps.map (·.1)).map fun n : Nat => D.int (n : Int)) := by rw [List.map_map]; rfl
  rw [eI]
  have b1 : ∀ m ∈ ps.map (·.1), m ≤ 60 := fun m hm => by obtain ⟨p, hp, rfl⟩ := List.mem_map.mp hm; exact (hb p hp).1
  have b2 : ∀ m ∈ closed ps, m ≤ 6060 := fun m hm => by
    have h3 : ∀ q ∈ ps.map (·.2), q ≤ 60 := fun m hm => by obtain ⟨p, hp, rfl⟩ := List.mem_map.mp hm; exact (hb p hp).2
    rcases List.mem_or_eq_of_mem_set hm with h | h
    · have := h3 m h; omega
    · have h4 := h3 _ (List.mem_of_getElem? hg)
      omega
  have c2 : (closed ps).length = ps.length := by simp [closed]
  refine FW.repeated (fun m hm => by have := b1 m hm; omega) ?_ ?_
  · have := repP_zip_le (rgI ps.length) (ps.map (·.1)) b1
    rw [List.length_map] at this
    omega
  walk_at "wp"
  refine FW.repeated (fun m hm => by have := b2 m hm; omega) ?_ ?_
  · have := repP_zip_le (rgI ps.length) (closed ps) b2
    omega
  walk_at "wp"
  exact h
theorem FW.logBad2 {p0 p1 : List (Nat × Nat)} {b : Nat × Nat} {dd : D} {P : PV.Tm → List PV.Tm → Prop} {X : Er → List PV.Tm → Prop} (hd : DsL (p0 ++ b :: p1) dd) (hl : (p0 ++ b :: p1).length ≤ 100) (hw : Lawful 0 p0) (hbad : lastS 0 p0 + b.1 - b.2 < 0) (h : ∀ u, X ⟨2, [.int (p0.length : Int)]⟩ [u]) : FW den_Logx_initx [.ob 3 [], .v .B dd] P X := by
  refine FW.def (ρ0 := [some (.ob 3 []), some (.v .B dd), none, none, none, none, none]) rfl ?_
  unfold d_Logx_initx
  refine SW.seq ?_
  refine lg1_ok hl hd ?_
  walk_at "wp"
  refine FW.stocksBad (by omega) hw hbad ?_
  walk_at "wp"
  exact h _
/-! a day, read -/
theorem sp_tl : TL.tl (" " : PySem.Str) = [32] := by decide +kernel
theorem nl_tl : TL.tl ("\n" : PySem.Str) = [10] := by decide +kernel
theorem nS_tl (n : Nat) : TL.tl (nS n) = TL.numL n := TL.tl_num n
theorem rowS_join (p : Nat × Nat) : rowS p = Txt.join (" " : PySem.Str) [nS p.1, nS p.2] := by
  rw [TL.join_eq]; rfl
theorem row_tl (p : Nat × Nat) : TL.tl (rowS p) = TL.numL p.1 ++ 32 :: TL.numL p.2 := by
  unfold rowS
  rw [TL.tl_append, TL.tl_append, nS_tl, nS_tl, sp_tl, List.append_assoc]
  rfl
/-! k02: texts of any signs -/
abbrev tl' (z : PySem.Str) : List Nat := z.cps.toList
theorem tl_len (z : PySem.Str) : (TL.tl z).length = z.length := by
  show z.cps.toList.length = z.cps.size
  simp
/-- a plain text of at most n signs -/
def OkT (n : Nat) (z : PySem.Str) : Prop := z.length ≤ n ∧ ∀ c ∈ TL.tl z, c < 1114112
theorem OkT.mono {m n : Nat} {z : PySem.Str} (h : OkT m z) (e : m ≤ n) : OkT n z := ⟨Nat.le_trans h.1 e, h.2⟩
theorem OkT.app {m n : Nat} {a b : PySem.Str} (h : OkT m a) (k : OkT n b) : OkT (m + n) (a ++ b) := by
  refine ⟨?_, fun c hc => ?_⟩
  · rw [str_app_len]; have := h.1; have := k.1; omega
  · rw [TL.tl_append] at hc
    rcases List.mem_append.mp hc with hc | hc
    · exact h.2 c hc
    · exact k.2 c hc
theorem OkT.cut {n : Nat} {z : PySem.Str} (h : OkT n z) (l r : Option Int) : OkT n (cutS z l r) := by
  have e : TL.tl (cutS z l r) = (z.cps.toList.drop (HT.sIx z.length 0 l)).take (HT.sIx z.length z.length r - HT.sIx z.length 0 l) := by
    show (cutS z l r).cps.toList = _
    unfold cutS
    simp
  refine ⟨?_, fun c hc => ?_⟩
  · rw [← tl_len, e, List.length_take, List.length_drop]
    have : z.cps.toList.length = z.length := tl_len z
    have := h.1
    omega
  · rw [e] at hc
    exact h.2 c (List.mem_of_mem_drop (List.mem_of_mem_take hc))
/-- parts of a joined text -/
def wS (ps : List PySem.Str) : Nat := (ps.map fun p => p.length + 1).sum
theorem joinL_len (s : Nat) : ∀ (ps : List (List Nat)), ps ≠ [] → (TL.joinL [s] ps).length + 1 = (ps.map fun p => p.length + 1).sum
  | [], h => absurd rfl h
  | [p], _ => by simp [TL.joinL]
  | p :: q :: r, _ => by
    have ih := joinL_len s (q :: r) (by simp)
    show (p ++ ([s] ++ TL.joinL [s] (q :: r))).length + 1 = _
    simp only [List.length_append, List.length_singleton, List.map_cons, List.sum_cons] at ih ⊢
    omega
theorem joinL_mem (s : Nat) : ∀ (ps : List (List Nat)) (p : List Nat) (c : Nat), p ∈ ps → c ∈ p → c ∈ TL.joinL [s] ps
  | [], p, c, h, _ => (List.not_mem_nil h).elim
  | [q], p, c, h, hc => by rw [List.mem_singleton.mp h] at hc; exact hc
  | q :: r :: t, p, c, h, hc => by
    show c ∈ q ++ ([s] ++ TL.joinL [s] (r :: t))
    rcases List.mem_cons.mp h with rfl | h
    · exact List.mem_append_left _ hc
    · exact List.mem_append_right _ (List.mem_append_right _ (joinL_mem s (r :: t) p c h hc))
theorem joinL_of (s : Nat) : ∀ (ps : List (List Nat)) (c : Nat), c ∈ TL.joinL [s] ps → c = s ∨ ∃ p ∈ ps, c ∈ p
  | [], c, h => (List.not_mem_nil h).elim
  | [q], c, h => .inr ⟨q, List.mem_singleton.mpr rfl, h⟩
  | q :: r :: t, c, h => by
    have h : c ∈ q ++ ([s] ++ TL.joinL [s] (r :: t)) := h
    rcases List.mem_append.mp h with h | h
    · exact .inr ⟨q, List.mem_cons_self, h⟩
    · rcases List.mem_append.mp h with h | h
      · exact .inl (List.mem_singleton.mp h)
      · rcases joinL_of s (r :: t) c h with h | ⟨p, hp, hc⟩
        · exact .inl h
        · exact .inr ⟨p, List.mem_cons_of_mem _ hp, hc⟩
theorem spl_ne (S : List Nat) : ∀ (l : List Nat) (k : Nat) (acc : List Nat), TL.spl S k acc l ≠ []
  | [], k, acc => by rw [TL.spl_nil]; simp
  | c :: r, 0, acc => by
    show (if TL.pre S (c :: r) = true then acc :: TL.spl S (S.length - 1) [] r else TL.spl S 0 (acc ++ [c]) r) ≠ []
    split
    · simp
    · exact spl_ne S r 0 _
  | c :: r, k + 1, acc => by
    show TL.spl S k acc r ≠ []
    exact spl_ne S r k acc
structure SepS (y : PySem.Str) (s : Nat) : Prop where
  e : TL.tl y = [s]
  k : y.cps.all (· < 256) = true
  lt : s < 1114112
  l1 : y.length = 1
theorem sepNl : SepS ("\n" : PySem.Str) 10 := ⟨nl_tl, by decide +kernel, by decide, by decide +kernel⟩
theorem sepSp : SepS (" " : PySem.Str) 32 := ⟨sp_tl, by decide +kernel, by decide, by decide +kernel⟩
theorem split_ne {y : PySem.Str} {s : Nat} (h : SepS y s) (z : PySem.Str) : Txt.split z y ≠ [] := fun e => by
  have := TL.split_spl z y (by rw [h.e]; simp) (TL.kind_ok h.k)
  rw [e] at this
  exact spl_ne _ _ _ _ this.symm
theorem split_back (z y : PySem.Str) : Txt.join y (Txt.split z y) = z := by
  rw [TL.join_eq]
  exact PySem.StrLaws.join_split z y
theorem tl_joinS {y : PySem.Str} {s : Nat} (h : SepS y s) (ps : List PySem.Str) : TL.tl (Txt.join y ps) = TL.joinL [s] (ps.map TL.tl) := by
  rw [TL.join_eq, TL.tl_join, h.e]
theorem join_wS {y : PySem.Str} {s : Nat} (h : SepS y s) {ps : List PySem.Str} (hne : ps ≠ []) : (Txt.join y ps).length + 1 = wS ps := by
  have := joinL_len s (ps.map TL.tl) (by simpa using hne)
  rw [← tl_joinS h, tl_len, List.map_map] at this
  rw [this]
  unfold wS
  exact congrArg List.sum (List.map_congr_left fun p _ => congrArg (· + 1) (tl_len p))
theorem OkT.join {y : PySem.Str} {s n : Nat} (h : SepS y s) {ps : List PySem.Str} (hw : wS ps ≤ n) (hp : ∀ p ∈ ps, ∀ c ∈ TL.tl p, c < 1114112) : OkT n (Txt.join y ps) := by
  constructor
  · by_cases hne : ps = []
    · subst hne
      have : (Txt.join y []).length = 0 := by rw [TL.join_eq]; rfl
      omega
    · have := join_wS h hne
      omega
  · intro c hc
    rw [tl_joinS h] at hc
    rcases joinL_of s _ c hc with rfl | ⟨p, hp', hc⟩
    · exact h.lt
    · obtain ⟨q, hq, rfl⟩ := List.mem_map.mp hp'
      exact hp q hq c hc
theorem split_wS {y : PySem.Str} {s : Nat} (h : SepS y s) (z : PySem.Str) : wS (Txt.split z y) = z.length + 1 := by
  rw [← join_wS h (split_ne h z), split_back]
theorem wS_mem : ∀ {ps : List PySem.Str} {p : PySem.Str}, p ∈ ps → p.length + 1 ≤ wS ps
  | [], p, h => (List.not_mem_nil h).elim
  | q :: ps, p, h => by
    unfold wS
    rw [List.map_cons, List.sum_cons]
    rcases List.mem_cons.mp h with rfl | h
    · omega
    · have := wS_mem h
      unfold wS at this
      omega
theorem wS_len : ∀ ps : List PySem.Str, ps.length ≤ wS ps
  | [] => by simp [wS]
  | q :: ps => by
    have := wS_len ps
    unfold wS at this ⊢
    rw [List.map_cons, List.sum_cons, List.length_cons]
    omega
theorem OkT.part {y : PySem.Str} {s n : Nat} (h : SepS y s) {z p : PySem.Str} (hz : OkT n z) (hp : p ∈ Txt.split z y) : OkT n p := by
  constructor
  · have h1 := wS_mem hp
    rw [split_wS h] at h1
    have := hz.1
    omega
  · intro c hc
    refine hz.2 c ?_
    rw [← split_back z y, tl_joinS h]
    exact joinL_mem s _ (TL.tl p) c (List.mem_map.mpr ⟨p, hp, rfl⟩) hc
theorem split_len {y : PySem.Str} {s n : Nat} (h : SepS y s) {z : PySem.Str} (hz : OkT n z) : (Txt.split z y).length ≤ n + 1 := by
  have := wS_len (Txt.split z y)
  rw [split_wS h] at this
  have := hz.1
  omega
/-! numbers -/
def isD (c : Nat) : Bool := decide (48 ≤ c) && decide (c ≤ 57)
theorem isD_iff {c : Nat} : isD c = true ↔ 48 ≤ c ∧ c ≤ 57 := by simp [isD]
def badW (l : List Nat) : Bool := l.isEmpty || !l.all isD || (l.head? == some 48 && decide (1 < l.length))
def wNum (z : PySem.Str) : Option Nat := if badW (TL.tl z) = true then none else some (if 9 < z.length then 1000000000 else NumText.digitsVal (TL.tl z))
def optD : Option Nat → D
  | none => .non
  | some n => .int (n : Int)
theorem digs_tl : TL.tl ("0123456789" : PySem.Str) = [48, 49, 50, 51, 52, 53, 54, 55, 56, 57] := by decide +kernel
theorem mem_digs {c : Nat} : c ∈ TL.tl ("0123456789" : PySem.Str) ↔ isD c = true := by
  rw [digs_tl, isD_iff]
  simp only [List.mem_cons, List.not_mem_nil, or_false]
  omega
theorem wNum_back {z : PySem.Str} {n : Nat} (h : wNum z = some n) (hn : n < 1000000000) : z = nS n := by
  unfold wNum at h
  split at h
  · cases h
  · rename_i hb
    cases h
    split at hn
    · omega
    · rename_i hl
      rw [if_neg hl]
      have hb : badW (TL.tl z) = false := by simpa using hb
      simp only [badW, Bool.or_eq_false_iff, Bool.and_eq_false_iff, Bool.not_eq_false'] at hb
      obtain ⟨⟨h1, h2⟩, h3⟩ := hb
      have hd : NumText.AllDigits (TL.tl z) := fun c hc => isD_iff.mp (List.all_eq_true.mp h2 c hc)
      refine TL.ext_tl ?_
      rw [nS_tl]
      cases e : TL.tl z with
      | nil => rw [e] at h1; cases h1
      | cons c r =>
        rw [e] at hd h3
        have key := NumText.toDigits_digitsVal r.length (c :: r) rfl hd (by
          rcases h3 with h3 | h3
          · right
            refine ⟨c, r, rfl, ?_⟩
            have := (hd c List.mem_cons_self).1
            have h4 : c ≠ 48 := fun z => by rw [z] at h3; simp at h3
            omega
          · left
            have := of_decide_eq_false h3
            simp only [List.length_cons] at this
            omega)
        unfold TL.numL
        rw [key, List.map_map]
        refine (List.map_id _).symm.trans (List.map_congr_left fun d hdm => ?_)
        have hr := hd d hdm
        have : ∀ d : Fin 10, (Char.ofNat (48 + d.1)).toNat = 48 + d.1 := by decide
        have h5 := this ⟨d - 48, by omega⟩
        show d = (Char.ofNat d).toNat
        rw [show 48 + (d - 48) = d by omega] at h5
        exact h5.symm
/-! k02: what a word writes -/
theorem str_nil {z : PySem.Str} : z = ("" : PySem.Str) ↔ TL.tl z = [] := by
  constructor
  · rintro rfl; decide +kernel
  · intro h
    refine TL.ext_tl ?_
    rw [h]; decide +kernel
theorem one_eq {c : Nat} : ((⟨#[c]⟩ : PySem.Str) = ("0" : PySem.Str)) ↔ c = 48 := by
  have e0 : TL.tl ("0" : PySem.Str) = [48] := by decide +kernel
  constructor
  · intro h
    have := congrArg TL.tl h
    rw [e0] at this
    exact (List.cons.inj this).1
  · intro h
    refine TL.ext_tl ?_
    rw [e0, h]
theorem zero_eq {z : PySem.Str} {c : Nat} {r : List Nat} (e : TL.tl z = c :: r) : (z = ("0" : PySem.Str)) ↔ c = 48 ∧ r = [] := by
  have e0 : TL.tl ("0" : PySem.Str) = [48] := by decide +kernel
  constructor
  · intro h
    have := congrArg TL.tl h
    rw [e0, e] at this
    exact List.cons.inj this
  · rintro ⟨rfl, rfl⟩
    refine TL.ext_tl ?_
    rw [e0, e]
theorem digs_dec {c : Nat} : decide (c ∈ ("0123456789" : PySem.Str).cps.toList) = isD c := by
  have := @mem_digs c
  cases h : isD c with
  | true => exact decide_eq_true (this.mpr h)
  | false => exact decide_eq_false fun z => by rw [this.mp z] at h; cases h
theorem all_map_id {α : Type} (p : α → Bool) : ∀ l : List α, (l.map p).all id = l.all p
  | [] => rfl
  | a :: l => by simp only [List.map_cons, List.all_cons, all_map_id p l]; rfl
theorem wNum_int {z : PySem.Str} (h : badW (TL.tl z) = false) (hl : z.length ≤ 100) : intText? z = some ((NumText.digitsVal (TL.tl z) : Nat) : Int) := by
  simp only [badW, Bool.or_eq_false_iff, Bool.and_eq_false_iff, Bool.not_eq_false'] at h
  obtain ⟨⟨h1, h2⟩, h3⟩ := h
  refine intText_digits (x := z) (fun c hc => isD_iff.mp (List.all_eq_true.mp h2 c hc)) (fun e => ?_) (by omega)
  have : TL.tl z = [] := e
  rw [this] at h1
  cases h1
theorem FW.readNumber {z : PySem.Str} (hz : OkT 40000 z) {P : PV.Tm → List PV.Tm → Prop} {X : Er → List PV.Tm → Prop} (h : P (.v .F (optD (wNum z))) []) : FW den_read_number [.v .B (.str z)] P X := by
  have hl := hz.1
  have hll : (TL.tl z).length = z.length := tl_len z
  have hbad : badW (TL.tl z) = true → wNum z = none := fun e => by unfold wNum; rw [if_pos e]
  have hgood : badW (TL.tl z) = false → wNum z = some (if 9 < z.length then 1000000000 else NumText.digitsVal (TL.tl z)) := fun e => by unfold wNum; rw [if_neg (by rw [e]; exact Bool.false_ne_true)]
  refine FW.def (ρ0 := [some (.v .B (.str z)), none]) rfl ?_
  unfold d_read_number
  walk_at "wp"
  refine ⟨_, _, _, _, _, Is.v, Is.v, eqD_str _ _, ?_⟩
  refine BoW.d (fun he => ?_) fun he => ?_
  · walk_at "wp"
    rw [hbad (by rw [str_nil.mp he]; rfl)] at h
    exact h
  obtain ⟨c, r, e⟩ := List.exists_cons_of_ne_nil (fun z => he (str_nil.mpr z))
  walk_at "wp"
  refine ⟨_, _, Is.v, ?_⟩
  refine CpW.map (inj := fun c : Nat => PV.Tm.v .F (.str ⟨#[c]⟩)) (fun _ => true) (fun c => .bl (isD c)) (TL.tl z) (fun _ => rfl) rfl (fun a _ => by walk_at "cp") (fun a _ _ => ?_) ?_ ?_
  · refine ⟨_, by walk_at "set", ?_⟩
    show EW _ [_, some (.v .F (.str ⟨#[a]⟩))] _ _
    walk_at "wp"
    refine ⟨_, _, _, _, Is.v, Is.v, ?_⟩
    rw [digs_dec]
    walk_at "wp"
    first | exact ⟨rfl, rfl⟩ | exact rfl
  · rw [filt_true, List.length_map, sizeLine_eq, hll]; omega
  rw [filt_true]
  refine ⟨_, (TL.tl z).map isD, by rw [List.map_map]; exact Is.v, ?_⟩
  rw [all_map_id]
  walk_at "wp"
  have hA : atI z.cps.toList 0 = some c := atN (i := 0) (by show (TL.tl z)[0]? = some c; rw [e]; rfl)
  refine BoW.b (fun ha => ?_) fun ha => ?_
  · refine BoW.tt ?_
    walk_at "wp"
    rw [hbad (by unfold badW; rw [ha]; simp)] at h
    exact h
  have ha : (TL.tl z).all isD = true := by simpa using ha
  have go : badW (TL.tl z) = false → SW (sRet (eM (eIf (eGt (eLen (eVar 0)) (eC (.int 9))) (eC (.int 1000000000)) (eIntT (eVar 0))))) [some (.v .B (.str z)), none] (fun ρ => GiW ρ [] fun us => P (.v .F .non) us) (fun t ρ => UnW t fun t' => GiW ρ [] fun us => P t' us) NoS NoS fun e ρ => GiW ρ [] fun us => X e us := fun hg => by
    rw [hgood hg] at h
    walk_at "wp"
    refine BoW.d (fun h9 => ?_) fun h9 => ?_
    · walk_at "wp"
      rw [if_pos (by omega)] at h
      exact h
    · walk_at "wp"
      refine ⟨_, _, _, Is.v, wNum_int hg (by omega), by omega, ?_⟩
      walk_at "wp"
      rw [if_neg (by omega)] at h
      exact h
  walk_at "wp"
  refine ⟨_, _, _, _, _, Is.v, Is.v, by rw [sizeLine_eq]; omega, hA, ?_⟩
  walk_at "wp"
  refine ⟨_, _, _, _, _, Is.v, Is.v, eqD_str _ _, ?_⟩
  refine BoW.d (fun h0 => ?_) fun h0 => ?_
  · have h0 := one_eq.mp h0
    walk_at "wp"
    refine BoW.d (fun h1 => ?_) fun h1 => ?_
    · walk_at "wp"
      rw [hbad (by unfold badW; rw [hll, e, h0]; simp; right; omega)] at h
      exact h
    · refine SW.nil ?_
      refine go ?_
      unfold badW
      rw [hll, e, ← e, ha, e]
      simp
      intro _
      omega
  · refine BoW.ff ?_
    refine SW.nil ?_
    refine go ?_
    have : c ≠ 48 := fun z => h0 (one_eq.mpr z)
    unfold badW
    rw [ha, e]
    simp
    intro z
    exact absurd z this
/-! k02: the law's numbers; rows -/
theorem toPys_ch : ∀ l : List Nat, toPys (l.map fun c => D.str ⟨#[c]⟩) = some (l.map fun c => PyData.str ⟨#[c]⟩)
  | [] => by simp [toPys]
  | c :: l => by simp [toPys, toPy, toPys_ch l]
theorem lay_ch : ∀ l : List Nat, (∀ c ∈ l, c < 1114112) → PyData.canLayAll0 (l.map fun c => PyData.str ⟨#[c]⟩) = true
  | [], _ => by simp [PyData.canLayAll0]
  | c :: l, h => by
    have h1 := h c List.mem_cons_self
    have h2 := lay_ch l fun d hd => h d (List.mem_cons_of_mem _ hd)
    simp only [List.map_cons, PyData.canLayAll0, h2, PyData.canLay0, Bool.and_true]
    unfold PySem.PyData.strOk
    simp [h1]
theorem depth_ch : ∀ l : List Nat, PyData.depthAll (l.map fun c => PyData.str ⟨#[c]⟩) = 0
  | [] => by simp [PyData.depthAll]
  | c :: l => by simp [PyData.depthAll, PyData.depth, depth_ch l]
theorem neD_ch {l : List Nat} (h : ∀ c ∈ l, c < 1114112) : eqD true (.lst (l.map fun c => D.str ⟨#[c]⟩)) (.lst []) = some (.bl (decide (l ≠ []))) := by
  have h1 : SeqAt.shaped (.list (l.map fun c => PyData.str ⟨#[c]⟩)) = true := by
    unfold SeqAt.shaped
    rw [PyData.canLay0, lay_ch l h, PyData.depth, depth_ch]; decide
  have h2 : SeqAt.shaped (.list []) = true := by decide
  have h3 : PyData.eqv (.list (l.map fun c => PyData.str ⟨#[c]⟩)) (.list []) = decide (l = []) := by
    cases l <;> simp [PyData.eqv, PyData.eqvAll]
  simp only [eqD, strD, eqP, toPy, toPys_ch, toPys, Option.map_some]
  rw [if_pos ⟨h1, h2⟩, if_pos trivial, h3]
  simp
theorem FW.lawNum {z : PySem.Str} (hz : OkT 40000 z) {P : PV.Tm → List PV.Tm → Prop} {X : Er → List PV.Tm → Prop} (h : P (.v .F (optD (wNum z))) []) : FW den__law_number [.v .B (.str z)] P X := by
  have hl := hz.1
  have hll : (TL.tl z).length = z.length := tl_len z
  have hbad : badW (TL.tl z) = true → wNum z = none := fun e => by unfold wNum; rw [if_pos e]
  have hgood : badW (TL.tl z) = false → wNum z = some (if 9 < z.length then 1000000000 else NumText.digitsVal (TL.tl z)) := fun e => by unfold wNum; rw [if_neg (by rw [e]; exact Bool.false_ne_true)]
  refine FW.def (ρ0 := [some (.v .B (.str z)), none]) rfl ?_
  unfold d__law_number
  walk_at "wp"
  refine ⟨_, _, _, _, _, Is.v, Is.v, eqD_str _ _, ?_⟩
  refine BoW.d (fun he => ?_) fun he => ?_
  · walk_at "wp"
    rw [hbad (by rw [str_nil.mp he]; rfl)] at h
    exact h
  obtain ⟨c, r, e⟩ := List.exists_cons_of_ne_nil (fun z => he (str_nil.mpr z))
  walk_at "wp"
  refine ⟨_, _, Is.v, ?_⟩
  refine CpW.map (inj := fun c : Nat => PV.Tm.v .F (.str ⟨#[c]⟩)) (fun c => !isD c) (fun c => .str ⟨#[c]⟩) (TL.tl z) (fun _ => rfl) rfl (fun a _ => ?_) (fun a _ _ => ?_) ?_ ?_
  · refine ⟨_, by walk_at "set", ?_⟩
    show EW _ [_, some (.v .F (.str ⟨#[a]⟩))] _ _
    walk_at "wp"
    refine ⟨_, _, _, _, Is.v, Is.v, ?_⟩
    rw [digs_dec]
    exact ⟨rfl, rfl⟩
  · refine ⟨_, by walk_at "set", ?_⟩
    show EW _ [_, some (.v .F (.str ⟨#[a]⟩))] _ _
    walk_at "wp"
    first | exact ⟨rfl, rfl⟩ | exact rfl
  · rw [List.length_map, sizeLine_eq]
    have := List.length_filter_le (fun c => !isD c) (TL.tl z)
    omega
  walk_at "wp"
  refine ⟨_, _, _, _, _, Is.v, Is.v, neD_ch (fun c hc => hz.2 c (List.mem_filter.mp hc).1), ?_⟩
  have hA : atI z.cps.toList 0 = some c := atN (i := 0) (by show (TL.tl z)[0]? = some c; rw [e]; rfl)
  refine BoW.d (fun ha => ?_) fun ha => ?_
  · walk_at "wp"
    rw [hbad (by
      have : (TL.tl z).all isD = false := by
        cases q : (TL.tl z).all isD with
        | false => rfl
        | true =>
          refine absurd (List.filter_eq_nil_iff.mpr fun c hc => ?_) ha
          rw [List.all_eq_true.mp q c hc]; simp
      unfold badW; rw [this]; simp)] at h
    exact h
  have ha : (TL.tl z).all isD = true := List.all_eq_true.mpr fun c hc => by
    have := List.filter_eq_nil_iff.mp (Decidable.not_not.mp ha) c hc
    simpa using this
  have go : badW (TL.tl z) = false → SW (sRet (eIf (eLt (eLen (eVar 0)) (eC (.int 10))) (eIntT (eVar 0)) (ePow (eC (.int 10)) (eC (.int 9))))) [some (.v .B (.str z)), none] (fun ρ => GiW ρ [] fun us => P (.v .F .non) us) (fun t ρ => UnW t fun t' => GiW ρ [] fun us => P t' us) NoS NoS fun e ρ => GiW ρ [] fun us => X e us := fun hg => by
    rw [hgood hg] at h
    walk_at "wp"
    refine BoW.d (fun h9 => ?_) fun h9 => ?_
    · walk_at "wp"
      refine ⟨_, _, _, Is.v, wNum_int hg (by omega), by omega, ?_⟩
      walk_at "wp"
      rw [if_neg (by omega)] at h
      exact h
    · walk_at "wp"
      refine ⟨1000000000, by decide +kernel, ?_⟩
      walk_at "wp"
      rw [if_pos (by omega)] at h
      exact h
  walk_at "wp"
  refine ⟨_, _, _, _, _, Is.v, Is.v, by rw [sizeLine_eq]; omega, hA, ?_⟩
  walk_at "wp"
  refine ⟨_, _, _, _, _, Is.v, Is.v, eqD_str _ _, ?_⟩
  refine BoW.d (fun h0 => ?_) fun h0 => ?_
  · have h0 := one_eq.mp h0
    walk_at "wp"
    refine ⟨_, _, _, _, _, Is.v, Is.v, neD_str _ _, ?_⟩
    refine BoW.d (fun h1 => ?_) fun h1 => ?_
    · walk_at "wp"
      have hr : r ≠ [] := fun q => h1 ((zero_eq e).mpr ⟨h0, q⟩)
      have hr2 : 0 < r.length := List.length_pos_iff.mpr hr
      rw [hbad (by unfold badW; rw [e, h0]; simp; right; omega)] at h
      exact h
    · have hr := ((zero_eq e).mp (Decidable.not_not.mp h1)).2
      refine SW.nil ?_
      refine go ?_
      unfold badW
      rw [ha, e, hr]
      simp
  · refine BoW.ff ?_
    refine SW.nil ?_
    refine go ?_
    have : c ≠ 48 := fun z => h0 (one_eq.mpr z)
    unfold badW
    rw [ha, e]
    simp
    intro z
    exact absurd z this
def rowO (z : PySem.Str) : List (Option Nat) := (Txt.split z (" " : PySem.Str)).map wNum
def rowP (z : PySem.Str) : Option (Nat × Nat) := match rowO z with
  | [some a, some b] => some (a, b)
  | _ => none
def optP : Option (Nat × Nat) → D
  | some p => pD p
  | none => .non
theorem inE_opt {a b : Option Nat} : inE false .non (.lst [optD a, optD b]) = some (.bl (decide (a = none ∨ b = none))) := by
  cases a <;> cases b <;> simp [optD, inE, inD, inP, toPy, toPys, intsD, SeqAt.shaped, PyData.canLay0, PyData.canLayAll0, PyData.depth, PyData.depthAll, PyData.eqv]
theorem rows_cp {z : PySem.Str} (hz : OkT 40000 z) {f : Fn} (hf : ∀ {w : PySem.Str}, OkT 40000 w → ∀ {P : PV.Tm → List PV.Tm → Prop} {X : Er → List PV.Tm → Prop}, P (.v .F (optD (wNum w))) [] → FW f [.v .B (.str w)] P X) {v : Nat} {ρ : Ss} {K : List D → Prop} (hv : hideOk ρ v = true) (hvl : v < ρ.length) (h : K ((rowO z).map optD)) :
    CpW v eTrue (eCall f [.b] (gCons (eVar v) gNil)) (((Txt.split z (" " : PySem.Str)).map D.str).map (PV.Tm.v .F)) ρ K := by
  rw [List.map_map]
  have e : (rowO z).map optD = (Txt.split z (" " : PySem.Str)).map fun w => optD (wNum w) := by
    unfold rowO; rw [List.map_map]; rfl
  rw [e] at h
  have hsl := split_len sepSp hz
  refine CpW.map (inj := PV.Tm.v .F ∘ D.str) (fun _ => true) (fun w => optD (wNum w)) (Txt.split z (" " : PySem.Str)) (fun _ => rfl) hv (fun a _ => ⟨_, rfl, EW.tr ⟨rfl, rfl⟩⟩) (fun w hw _ => ⟨_, rfl, ?_⟩) ?_ ?_
  · have hg : (ρ.set v (some ((PV.Tm.v .F ∘ D.str) w)))[v]? = some (some (.v .F (.str w))) := by
      rw [List.getElem?_set_self hvl]; rfl
    refine EW.call (AW.cons (EW.var hg (VarW.xF (AW.nil ?_))))
    walk_at "wp"
    refine hf (hz.part sepSp hw) ?_
    walk_at "wp"
    first | exact ⟨rfl, rfl⟩ | exact rfl
  · rw [filt_true, List.length_map, sizeLine_eq]; omega
  · rw [filt_true]; exact h
theorem FW.readDay2 {z : PySem.Str} (hz : OkT 40000 z) {P : PV.Tm → List PV.Tm → Prop} {X : Er → List PV.Tm → Prop} (h : P (.v .F (optP (rowP z))) []) : FW den_read_day [.v .B (.str z)] P X := by
  have hl := hz.1
  refine FW.def (ρ0 := [some (.v .B (.str z)), none, none]) rfl ?_
  unfold d_read_day
  walk_at "wp"
  refine ⟨_, _, Is.v, ?_⟩
  walk_at "wp"
  refine ⟨_, _, Is.v, by decide +kernel, by rw [sizeLine_eq]; omega, ?_⟩
  walk_at "wp"
  refine rows_cp hz (fun {w} hw {P X} hp => FW.readNumber hw hp) rfl (by walk_at "lt") ?_
  walk_at "wp"
  rw [List.length_map]
  refine ⟨_, _, _, _, _, Is.v, Is.v, neD_int _ _, ?_⟩
  refine BoW.d (fun h2 => ?_) fun h2 => ?_
  · walk_at "wp"
    have : rowP z = none := by
      unfold rowP
      split
      · rename_i e; rw [e] at h2; exact absurd rfl h2
      · rfl
    rw [this] at h
    exact h
  obtain ⟨a, b, e⟩ : ∃ a b, rowO z = [a, b] := by
    have h2 : (rowO z).length = 2 := by omega
    cases q : rowO z with
    | nil => rw [q] at h2; simp at h2
    | cons a r =>
      cases q2 : r with
      | nil => rw [q, q2] at h2; simp at h2
      | cons b r2 =>
        cases r2 with
        | nil => exact ⟨a, b, rfl⟩
        | cons c r3 => rw [q, q2] at h2; simp at h2
  rw [e]
  walk_at "wp"
  refine ⟨_, _, _, _, _, Is.v, Is.loc rfl, inE_opt, ?_⟩
  refine BoW.d (fun h3 => ?_) fun h3 => ?_
  · walk_at "wp"
    have : rowP z = none := by
      unfold rowP
      rw [e]
      rcases h3 with rfl | rfl
      · rfl
      · cases a <;> rfl
    rw [this] at h
    exact h
  · cases a with
    | none => exact absurd (.inl rfl) h3
    | some a =>
      cases b with
      | none => exact absurd (.inr rfl) h3
      | some b =>
        walk_at "wp"
        refine ⟨_, _, .inl (Is.loc rfl), elkO, ?_⟩
        walk_at "wp"
        have : rowP z = some (a, b) := by unfold rowP; rw [e]
        rw [this] at h
        exact h
/-! texts -/
theorem reprAny {d : D} {ts : List PyData} (h : toPy d = some (.tuple ts) ∨ toPy d = some (.list ts)) (h1 : PyData.showableAll ts = true) (h2 : PyData.hasDictAll ts = false) (h3 : PyData.depthAll ts < 50) (h4 : PyData.leavesShortAll 13 ts = true) (h5 : PyData.weightAll ts ≤ 1000000) : ∃ x, reprD d = some (.str x) := by
  rcases h with h | h
  · have hs := PyData.shown_fits (B := 13) (d := .tuple ts) (by decide) (by decide) (by simp only [PyData.leavesShort]; exact h4) (by simp only [PyData.weight]; omega)
    refine ⟨PyData.shown (.tuple ts), ?_⟩
    unfold reprD
    rw [h]
    dsimp only
    rw [if_pos ⟨by simp only [PyData.showable]; exact h1, by simp only [PyData.hasDict]; exact h2, by simp only [PyData.depth]; omega, hs⟩]
  · have hs := PyData.shown_fits (B := 13) (d := .list ts) (by decide) (by decide) (by simp only [PyData.leavesShort]; exact h4) (by simp only [PyData.weight]; omega)
    refine ⟨PyData.shown (.list ts), ?_⟩
    unfold reprD
    rw [h]
    dsimp only
    rw [if_pos ⟨by simp only [PyData.showable]; exact h1, by simp only [PyData.hasDict]; exact h2, by simp only [PyData.depth]; omega, hs⟩]
theorem sh_of {w : Int} (h : 0 ≤ w ∧ w ≤ 2000000) : Sh w := by unfold Sh; omega
structure Dys (ps : List (Nat × Nat)) : Prop where
  ne : ps ≠ []
  len : ps.length ≤ 60
  law : Lawful 0 ps
  bd : ∀ p ∈ ps, p.1 ≤ 60 ∧ p.2 ≤ 60
  sm : (ps.map (·.1)).sum ≤ 40
theorem elk_pD (ps : List (Nat × Nat)) : elk .B (ps.map pD) = some (ps.map pD) := by
  unfold elk
  rw [if_pos]
  rw [List.all_eq_true]
  intro d hd
  obtain ⟨p, _, rfl⟩ := List.mem_map.mp hd
  exact flat_pD p
theorem lastS_take {ps : List (Nat × Nat)} {i : Nat} (h : i < ps.length) (s : Int) : (stk s ps)[i]? = some (lastS s (ps.take (i + 1))) := by
  induction ps generalizing i s with
  | nil => simp at h
  | cons p ps ih =>
    cases i with
    | zero => simp [stk, lastS]
    | succ i =>
      rw [stk, List.getElem?_cons_succ, ih (by simpa using h)]
      rfl
theorem lastS_map (ps : List (Nat × Nat)) (s : Int) : lastS s ps = s + (ps.map fun p => ((p.1 : Int) - (p.2 : Int))).sum := by
  induction ps generalizing s with
  | nil => simp [lastS]
  | cons p ps ih => rw [lastS, ih, List.map_cons, List.sum_cons]; omega
theorem FW.lawStock {ps : List (Nat × Nat)} {i : Nat} {P : PV.Tm → List PV.Tm → Prop} {X : Er → List PV.Tm → Prop} (hl : ps.length ≤ 100) (h : P (.v .F (.int (lastS 0 (ps.take (i + 1))))) []) : FW den__law_stock [.v .B (.lst (ps.map pD)), .v .B (.int (i : Int))] P X := by
  refine FW.def (ρ0 := [some (.v .B (.lst (ps.map pD))), some (.v .B (.int (i : Int))), none, none]) rfl ?_
  unfold d__law_stock
  walk_at "wp"
  refine EW.pairs (k := .F) (f1 := fun p : Nat × Nat => D.int (p.1 : Int)) (f2 := fun p => D.int (p.2 : Int)) (fun p => D.int ((p.1 : Int) - (p.2 : Int))) (by decide) ?_
  walk_at "wp"
  refine SlW.lst Is.v (elk_pD ps) (cut_to _ (i + 1)) ?_
  walk_at "wp"
  refine ⟨ps.take (i + 1), by rw [← List.map_take]; rfl, rfl, rfl, rfl, by rw [List.length_take, sizeLine_eq]; omega, fun p _ => ⟨_, _, by walk_at "set", by walk_at "set", ?_⟩, ?_⟩
  · show EW _ [_, _, some (.v .F (.int (p.1 : Int))), some (.v .F (.int (p.2 : Int)))] _ _
    walk_at "wp"
    all_goals first | exact ⟨rfl, rfl⟩ | exact rfl
  refine ⟨_, (ps.take (i + 1)).map fun p => ((p.1 : Int) - (p.2 : Int)), _, Is.v, .inl (by rw [lI, List.map_map]; rfl), ?_⟩
  walk_at "wp"
  rw [lastS_map, Int.zero_add] at h
  exact h
/-! k02: the rows of a text -/
def rowsOf (z : PySem.Str) : List PySem.Str := Txt.split z ("\n" : PySem.Str)
def sumA (ds : List (Nat × Nat)) : Nat := (ds.map (·.1)).sum
def scan : List PySem.Str → Nat → List (Nat × Nat) → Nat ⊕ List (Nat × Nat)
  | [], _, ds => .inr ds
  | r :: rs, i, ds => match rowP r with
    | none => .inl i
    | some p => if 60 ≤ i ∨ 40 < sumA ds + p.1 then .inl i else scan rs (i + 1) (ds ++ [p])
theorem sumA_app (ds : List (Nat × Nat)) (p : Nat × Nat) : sumA (ds ++ [p]) = sumA ds + p.1 := by simp [sumA]
theorem scan_inr : ∀ (rs : List PySem.Str) (i : Nat) (ds es : List (Nat × Nat)), i = ds.length → ds.length ≤ 60 → sumA ds ≤ 40 → scan rs i ds = .inr es → es.length ≤ 60 ∧ sumA es ≤ 40 ∧ ∃ qs, es = ds ++ qs ∧ qs.map some = rs.map rowP
  | [], i, ds, es, _, h1, h2, h => by
    cases h
    exact ⟨h1, h2, [], by simp, rfl⟩
  | r :: rs, i, ds, es, hi, h1, h2, h => by
    unfold scan at h
    cases e : rowP r with
    | none => rw [e] at h; cases h
    | some p =>
      rw [e] at h
      dsimp only at h
      split at h
      · cases h
      · rename_i hc
        obtain ⟨a, b, qs, c, d⟩ := scan_inr rs (i + 1) (ds ++ [p]) es (by rw [List.length_append, hi]; rfl) (by rw [List.length_append]; show _ + 1 ≤ _; omega) (by rw [sumA_app]; omega) h
        exact ⟨a, b, p :: qs, by rw [c, List.append_assoc]; rfl, by rw [List.map_cons, List.map_cons, d, e]⟩
def bad (ds : List (Nat × Nat)) : Option Nat := (List.range ds.length).find? fun d => decide (lastS 0 (ds.take (d + 1)) < 0)
theorem bad_none {ds : List (Nat × Nat)} (h : bad ds = none) : Lawful 0 ds := by
  intro x hx
  obtain ⟨i, hi, e⟩ := List.getElem_of_mem hx
  rw [stk_len] at hi
  have := List.find?_eq_none.mp h i (List.mem_range.mpr hi)
  have e2 : (stk 0 ds)[i]? = some x := by rw [List.getElem?_eq_getElem (by rw [stk_len]; exact hi), e]
  rw [lastS_take hi] at e2
  cases e2
  simpa using this
theorem find_range {p : Nat → Bool} {n d : Nat} (h : (List.range n).find? p = some d) : d < n ∧ p d = true ∧ ∀ e, e < d → p e = false := by
  have h1 := List.mem_range.mp (List.mem_of_find?_eq_some h)
  refine ⟨h1, List.find?_some h, fun e he => ?_⟩
  obtain ⟨_, as, bs, e1, e2⟩ := List.find?_eq_some_iff_append.mp h
  have : e ∈ as := by
    have hg : (List.range n)[e]? = some e := by rw [List.getElem?_range (by omega)]
    have hd : (List.range n)[d]? = some d := by rw [List.getElem?_range h1]
    have hal : as.length = d := by
      have h3 : (List.range n)[as.length]? = some d := by rw [e1]; simp
      have h4 : as.length < n := by
        have := congrArg List.length e1
        rw [List.length_range, List.length_append, List.length_cons] at this
        omega
      rw [List.getElem?_range h4] at h3
      exact Option.some.inj h3
    rw [e1, List.getElem?_append_left (by omega)] at hg
    exact List.mem_of_getElem? hg
  have := e2 e this
  simpa using this
theorem bad_some {ds : List (Nat × Nat)} {d : Nat} (h : bad ds = some d) : ∃ p0 b p1, ds = p0 ++ b :: p1 ∧ p0.length = d ∧ Lawful 0 p0 ∧ lastS 0 p0 + (b.1 : Int) - (b.2 : Int) < 0 := by
  obtain ⟨h1, h2, h3⟩ := find_range h
  have hp : ds[d]? = some ds[d] := List.getElem?_eq_getElem h1
  refine ⟨ds.take d, ds[d], ds.drop (d + 1), ?_, by rw [List.length_take]; omega, ?_, ?_⟩
  · conv => lhs; rw [← List.take_append_drop d ds]
    rw [List.drop_eq_getElem_cons h1]
  · intro x hx
    obtain ⟨i, hi, e⟩ := List.getElem_of_mem hx
    rw [stk_len, List.length_take] at hi
    have e2 : (stk 0 (ds.take d))[i]? = some x := by rw [List.getElem?_eq_getElem (by rw [stk_len, List.length_take]; exact hi), e]
    rw [lastS_take (by rw [List.length_take]; exact hi), List.take_take, Nat.min_eq_left (by omega)] at e2
    cases e2
    have := h3 i (by omega)
    simpa using this
  · have := of_decide_eq_true h2
    rw [take_snoc hp, lastS_app] at this
    exact this
theorem bad_is {ds : List (Nat × Nat)} {d : Nat} (h1 : d < ds.length) (h2 : lastS 0 (ds.take (d + 1)) < 0) (h3 : ∀ e, e < d → 0 ≤ lastS 0 (ds.take (e + 1))) : bad ds = some d := by
  cases e : bad ds with
  | none =>
    have := List.find?_eq_none.mp e d (List.mem_range.mpr h1)
    simp at this
    omega
  | some k =>
    obtain ⟨a1, a2, a3⟩ := find_range e
    rcases Nat.lt_trichotomy k d with h | h | h
    · have := h3 k h
      have := of_decide_eq_true a2
      omega
    · rw [h]
    · have := of_decide_eq_false (a3 d h)
      omega
theorem bad_is0 {ds : List (Nat × Nat)} (h3 : ∀ e, e < ds.length → 0 ≤ lastS 0 (ds.take (e + 1))) : bad ds = none := by
  refine List.find?_eq_none.mpr fun e he => ?_
  have := h3 e (List.mem_range.mp he)
  simp
  omega
theorem mem_le_sum : ∀ {l : List Nat} {x : Nat}, x ∈ l → x ≤ l.sum
  | [], x, h => (List.not_mem_nil h).elim
  | y :: l, x, h => by
    rw [List.sum_cons]
    rcases List.mem_cons.mp h with rfl | h
    · omega
    · have := mem_le_sum h
      omega
theorem dys_of {z : PySem.Str} {ds : List (Nat × Nat)} (h : scan (rowsOf z) 0 [] = .inr ds) (hb : bad ds = none) : Dys ds ∧ ds.length ≤ 60 := by
  obtain ⟨h1, h2, qs, h3, h4⟩ := scan_inr _ 0 [] ds rfl (by simp) (by simp [sumA]) h
  rw [List.nil_append] at h3
  subst h3
  have hw := bad_none hb
  have hl := hw.last
  have hs := lastS_sum ds 0
  have h2 : (ds.map (·.1)).sum ≤ 40 := h2
  refine ⟨⟨fun e => ?_, h1, hw, fun p hp => ⟨?_, ?_⟩, h2⟩, h1⟩
  · have := congrArg List.length h4
    rw [e, List.length_map, List.length_map] at this
    exact split_ne sepNl z (List.eq_nil_of_length_eq_zero this.symm)
  · have := mem_le_sum (List.mem_map.mpr ⟨p, hp, rfl⟩ : p.1 ∈ ds.map (·.1))
    omega
  · have := mem_le_sum (List.mem_map.mpr ⟨p, hp, rfl⟩ : p.2 ∈ ds.map (·.2))
    omega
theorem rowP_back {w : PySem.Str} {p : Nat × Nat} (h : rowP w = some p) (h1 : p.1 < 1000000000) (h2 : p.2 < 1000000000) : w = rowS p := by
  unfold rowP at h
  split at h
  · rename_i a b e
    cases h
    unfold rowO at e
    cases e3 : Txt.split w (" " : PySem.Str) with
    | nil => rw [e3] at e; simp at e
    | cons x r =>
      cases r with
      | nil => rw [e3] at e; simp at e
      | cons y r2 =>
        cases r2 with
        | nil =>
          rw [e3] at e
          simp only [List.map_cons, List.map_nil, List.cons.injEq, and_true] at e
          rw [← split_back w (" " : PySem.Str), e3, rowS_join, wNum_back e.1 h1, wNum_back e.2 h2]
        | cons _ _ => rw [e3] at e; simp at e
  · cases h
theorem txt_back {z : PySem.Str} {ds : List (Nat × Nat)} (h : scan (rowsOf z) 0 [] = .inr ds) (hb : bad ds = none) : txtS ds = z := by
  obtain ⟨G, hl⟩ := dys_of h hb
  obtain ⟨h1, h2, qs, h3, h4⟩ := scan_inr _ 0 [] ds rfl (by simp) (by simp [sumA]) h
  rw [List.nil_append] at h3
  subst h3
  have e : rowsOf z = ds.map rowS := by
    have hbd := G.bd
    clear h hb G hl h1 h2
    generalize rowsOf z = rs at *
    induction ds generalizing rs with
    | nil => cases rs with
      | nil => rfl
      | cons _ _ => simp at h4
    | cons p ds ih => cases rs with
      | nil => simp at h4
      | cons r rs =>
        simp only [List.map_cons, List.cons.injEq] at h4
        have hp := hbd p List.mem_cons_self
        rw [List.map_cons, ← ih (fun q hq => hbd q (List.mem_cons_of_mem _ hq)) rs h4.2, rowP_back h4.1.symm (by omega) (by omega)]
  unfold txtS
  rw [← e]
  exact split_back z _
/-! k02: what parse and the law's due give -/
theorem at_idx {α : Type} {xs : List α} {pre : List (Nat × α)} {q : Nat × α} {suf : List (Nat × α)} (hp : xs.mapIdx (fun i x => (0 + i, x)) = pre ++ q :: suf) : q.1 = pre.length ∧ xs.drop pre.length = q.2 :: xs.drop (pre.length + 1) ∧ q.2 ∈ xs := by
  have h1 : (xs.mapIdx fun i x => (0 + i, x))[pre.length]? = some q := by rw [hp]; simp
  rw [List.getElem?_mapIdx] at h1
  cases h2 : xs[pre.length]? with
  | none => rw [h2] at h1; cases h1
  | some x =>
    rw [h2] at h1
    cases h1
    obtain ⟨hl, e⟩ := List.getElem?_eq_some_iff.mp h2
    refine ⟨by simp, ?_, List.mem_of_getElem? h2⟩
    rw [List.drop_eq_getElem_cons hl, e]
theorem scan_nil (i : Nat) (ds : List (Nat × Nat)) : scan [] i ds = .inr ds := rfl
theorem scan_none {r : PySem.Str} (e : rowP r = none) (rs : List PySem.Str) (i : Nat) (ds : List (Nat × Nat)) : scan (r :: rs) i ds = .inl i := by
  rw [scan, e]
theorem scan_some {r : PySem.Str} {p : Nat × Nat} (e : rowP r = some p) (rs : List PySem.Str) (i : Nat) (ds : List (Nat × Nat)) : scan (r :: rs) i ds = if 60 ≤ i ∨ 40 < sumA ds + p.1 then .inl i else scan rs (i + 1) (ds ++ [p]) := by
  rw [scan, e]
theorem FW.parse2 {z : PySem.Str} (hz : OkT 40000 z) {P : PV.Tm → List PV.Tm → Prop} {X : Er → List PV.Tm → Prop}
    (h1 : ∀ i : Nat, scan (rowsOf z) 0 [] = .inl i → X ⟨1, [.int (i : Int)]⟩ [])
    (h2 : ∀ (ds : List (Nat × Nat)) (d : Nat), scan (rowsOf z) 0 [] = .inr ds → bad ds = some d → X ⟨2, [.int (d : Int)]⟩ [])
    (h3 : ∀ ds : List (Nat × Nat), scan (rowsOf z) 0 [] = .inr ds → bad ds = none → P (.ob 3 (logF ds)) []) :
    FW den_Log_parse [.v .F (.cls 3), .v .B (.str z)] P X := by
  have hl := hz.1
  refine FW.def (ρ0 := [some (.v .F (.cls 3)), some (.v .B (.str z)), none, none, none, none, none]) rfl ?_
  unfold d_Log_parse
  walk_at "wp"
  refine ⟨_, _, Is.v, ?_⟩
  walk_at "wp"
  refine ⟨_, _, Is.v, by decide +kernel, by rw [sizeLine_eq]; omega, ?_⟩
  show ∃ ts, itemsEnA (.v .O (.lst ((rowsOf z).map D.str))) = some ts ∧ _
  refine ⟨_, rfl, ?_⟩
  rw [enum_map]
  refine ForW.data (fun pre ρ => ∃ (ds : List (Nat × Nat)) (v4 v5 v6 : Option PV.Tm), ρ = [some (.v .F (.cls 3)), some (.v .B (.str z)), some (.v .O (.lst (ds.map pD))), some (.v .F (.int (sumA ds : Nat))), v4, v5, v6] ∧ scan (rowsOf z) 0 [] = scan ((rowsOf z).drop pre.length) pre.length ds ∧ ds.length = pre.length ∧ ds.length ≤ 60) ((rowsOf z).mapIdx fun i x => (0 + i, x)) ⟨[], _, _, _, rfl, rfl, rfl, by simp⟩ ?_ ?_
  · rintro pre q suf ρ hp ⟨ds, v4, v5, v6, rfl, hsc, hdl, hd6⟩
    obtain ⟨hq1, hdr, hmem⟩ := at_idx hp
    have hqz : OkT 40000 q.2 := hz.part sepNl hmem
    rw [hdr] at hsc
    rw [List.length_append, List.length_singleton]
    show TW _ (.v _ (.tup [.int q.1, .str q.2])) _ fun ρ1 => SW _ _ (fun ρ2 => ∃ (ds : List (Nat × Nat)) (v4 v5 v6 : Option PV.Tm), ρ2 = [some (.v .F (.cls 3)), some (.v .B (.str z)), some (.v .O (.lst (ds.map pD))), some (.v .F (.int (sumA ds : Nat))), v4, v5, v6] ∧ scan (rowsOf z) 0 [] = scan ((rowsOf z).drop (pre.length + 1)) (pre.length + 1) ds ∧ ds.length = pre.length + 1 ∧ ds.length ≤ 60) _ _ (fun ρ2 => ∃ (ds : List (Nat × Nat)) (v4 v5 v6 : Option PV.Tm), ρ2 = [some (.v .F (.cls 3)), some (.v .B (.str z)), some (.v .O (.lst (ds.map pD))), some (.v .F (.int (sumA ds : Nat))), v4, v5, v6] ∧ scan (rowsOf z) 0 [] = scan ((rowsOf z).drop (pre.length + 1)) (pre.length + 1) ds ∧ ds.length = pre.length + 1 ∧ ds.length ≤ 60) _
    rw [hq1]
    walk_at "wp"
    refine FW.readDay2 hqz ?_
    cases e : rowP q.2 with
    | none =>
      rw [scan_none e] at hsc
      walk_at "wp"
      refine ⟨_, _, _, Is.v, Is.v, ?_⟩
      refine BoW.tt ?_
      walk_at "wp"
      refine ⟨_, rfl, ?_⟩
      walk_at "wp"
      exact h1 _ hsc
    | some p =>
      rw [scan_some e] at hsc
      walk_at "wp"
      refine ⟨_, _, _, Is.v, Is.v, ?_⟩
      refine BoW.ff ?_
      walk_at "wp"
      refine ⟨_, _, _, _, _, Is.v, Is.v, eqD_int _ _, ?_⟩
      refine BoW.d (fun h6 => ?_) fun h6 => ?_
      · rw [if_pos (.inl (by omega))] at hsc
        walk_at "wp"
        refine ⟨_, rfl, ?_⟩
        walk_at "wp"
        exact h1 _ hsc
      walk_at "wp"
      refine BoW.d (fun h4 => ?_) fun h4 => ?_
      · rw [if_pos (.inr (by omega))] at hsc
        walk_at "wp"
        refine ⟨_, rfl, ?_⟩
        walk_at "wp"
        exact h1 _ hsc
      rw [if_neg (by omega)] at hsc
      walk_at "wp"
      refine ⟨_, _, rfl, rfl, rfl, by walk_at "lt", _, by walk_at "set", ?_⟩
      walk_at "wp"
      refine ⟨ds ++ [p], some (.v .F (.int (pre.length : Int))), some (.v .F (.str q.2)), some (.v .F (pD p)), ?_, hsc, by rw [List.length_append, hdl]; rfl, by rw [List.length_append]; show _ + 1 ≤ _; omega⟩
      rw [sumA_app, Int.natCast_add, List.map_append]
      rfl
  · rintro ρ ⟨ds, v4, v5, v6, rfl, hsc, hdl, hd6⟩
    rw [List.length_mapIdx, List.drop_length, scan_nil] at hsc
    walk_at "wp"
    refine EW.makeL rfl ?_
    walk_at "wp"
    show MkW _ _ _ [_] _ _ _
    refine MkW.go rfl rfl ?_
    walk_at "wp"
    cases hb : bad ds with
    | none =>
      obtain ⟨G, hl6⟩ := dys_of hsc hb
      refine FW.log2 (.inl rfl) G.ne (by omega) G.bd G.law ⟨_, rfl, rfl, ?_⟩
      walk_at "wp"
      exact h3 ds hsc hb
    | some d =>
      have := h2 ds d hsc hb
      obtain ⟨p0, b, p1, rfl, rfl, hw, hneg⟩ := bad_some hb
      refine FW.logBad2 (.inl rfl) (by omega) hw hneg fun u => ⟨⟨u, rfl⟩, ?_⟩
      walk_at "wp"
      exact this
/-- what a text gives -/
def due (z : PySem.Str) : D := match scan (rowsOf z) 0 [] with
  | .inl i => .tup [.str "text", .int (i : Int)]
  | .inr ds => match bad ds with
    | some d => .tup [.str "day", .int (d : Int)]
    | none => .str z
theorem tryKW_yes {kn : List Nat} {sub : Nat → Bool} {j y : Nat} {N : Ss → Prop} {X : PX} {e : Er} {ρ1 : Ss} (h1 : e.c ∈ kn) (h2 : sub e.c = true) (h3 : j < ρ1.length) (h4 : y < ρ1.length) (h : N ((ρ1.set j none).set y (some (.v .F (.err e.c e.ds))))) : TryKW kn sub j y N X e ρ1 := ⟨h1, by rw [if_pos h2]; exact ⟨h3, h4, _, rfl, h⟩⟩
theorem EW.isCo {c : Nat} {g : Ev} {ρ : Ss} {P : PV.Tm → Ss → Prop} {X : PX} (h : EW g ρ (fun t ρ1 => ∃ u r, derT ρ1 t = some u ∧ PV.isC c (toD u) = some r ∧ P (.v .F r) ρ1) X) : EW (eIsC c g) ρ P X := by
  with_unfolding_all exact (PV.EW.op1 (PV.EW.imp h fun t ρ1 h => by
    obtain ⟨u, r, h1, h2, h3⟩ := h
    exact ⟨u, .v .F r, h1, by simp only [rd1, h2, Option.map_some], h3⟩))
theorem FW.told {z : PySem.Str} (hz : OkT 40000 z) {P : PV.Tm → List PV.Tm → Prop} {X : Er → List PV.Tm → Prop} (h : P (.v .F (due z)) []) : FW den__law_told [.v .B (.str z)] P X := by
  refine FW.def (ρ0 := [some (.v .B (.str z)), none, none, none]) rfl ?_
  unfold d__law_told
  walk_at "wp"
  refine SW.tryK ?_
  walk_at "wp"
  refine FW.parse2 hz (fun i hi => ?_) (fun ds d hs hb => ?_) fun ds hs hb => ?_
  · have hd : due z = .tup [.str "text", .int (i : Int)] := by unfold due; rw [hi]
    rw [hd] at h
    walk_at "wp"
    refine tryKW_yes (by show 1 ∈ [1, 2]; decide) (by rfl) (by walk_at "lt") (by walk_at "lt") ?_
    simp only [List.set_cons_succ, List.set_cons_zero]
    walk_at "wp"
    refine ⟨_, _, _, Is.v, Is.v, ?_⟩
    refine BoW.ff ?_
    walk_at "wp"
    refine ⟨_, _, _, Is.v, by decide, ?_⟩
    refine BoW.tt ?_
    walk_at "wp"
    refine ⟨_, rfl, ?_⟩
    walk_at "wp"
    exact h
  · have hd : due z = .tup [.str "day", .int (d : Int)] := by unfold due; rw [hs]; dsimp only; rw [hb]
    rw [hd] at h
    walk_at "wp"
    refine tryKW_yes (by show 2 ∈ [1, 2]; decide) (by rfl) (by walk_at "lt") (by walk_at "lt") ?_
    simp only [List.set_cons_succ, List.set_cons_zero]
    walk_at "wp"
    refine ⟨_, _, _, Is.v, Is.v, ?_⟩
    refine BoW.ff ?_
    walk_at "wp"
    refine ⟨_, _, _, Is.v, by decide, ?_⟩
    refine BoW.ff ?_
    walk_at "wp"
    refine ⟨_, _, _, Is.v, by decide, ?_⟩
    refine BoW.tt ?_
    walk_at "wp"
    refine ⟨_, rfl, ?_⟩
    walk_at "wp"
    exact h
  · have hd : due z = .str z := by unfold due; rw [hs]; dsimp only; rw [hb]
    rw [hd] at h
    obtain ⟨G, hl6⟩ := dys_of hs hb
    have ht := txt_back hs hb
    walk_at "wp"
    refine ⟨_, _, _, Is.v, Is.v, ?_⟩
    refine BoW.tt ?_
    refine SW.ret (EW.ifx (EW.isCo (EW.var rfl (VarW.xOb ⟨_, _, rfl, by rw [toD]; rfl, ?_⟩))))
    refine BoW.tt ?_
    walk_at "wp"
    refine FW.logStr (by omega) G.bd ?_
    rw [ht]
    walk_at "wp"
    exact h
/-! k02: the law's due -/
def d_due2 : Sm := (sSeq (sFor (itR1 (eLen (eVar 1))) (tgN 5)
    (sIf (eLt (eCall den__law_stock [.b, .b] (gCons (eVar 1) (gCons (eVar 5) gNil))) (eC (.int 0)))
    (sRet (eTup (gCons (eC (.str "day")) (gCons (eF (eVar 5)) gNil))))
    sNil))
    (sRet (eM (eVar 0))))
theorem due2_ok {z : PySem.Str} {ds : List (Nat × Nat)} (hl : ds.length ≤ 60) {v2 v3 v4 v5 v6 : Option PV.Tm} {N : Ss → Prop} {R : PV.Tm → Ss → Prop} {B C : Ss → Prop} {X : PX}
    (h1 : ∀ (d : Nat) ρ, bad ds = some d → R (.v .F (.tup [.str "day", .int (d : Int)])) ρ) (h2 : bad ds = none → ∀ ρ, R (.v .B (.str z)) ρ) :
    SW d_due2 [some (.v .B (.str z)), some (.v .O (.lst (ds.map pD))), v2, v3, v4, v5, v6] N R B C X := by
  unfold d_due2
  refine SW.seq (SW.for ?_)
  walk_at "wp"
  rw [List.length_map]
  walk_at "wp"
  rw [Int.toNat_natCast]
  refine ForW.num (fun i ρ => ∃ v5, ρ = [some (.v .B (.str z)), some (.v .O (.lst (ds.map pD))), v2, v3, v4, v5, v6] ∧ ∀ e, e < i → 0 ≤ lastS 0 (ds.take (e + 1))) _ 0 ⟨_, rfl, fun e he => absurd he (Nat.not_lt_zero _)⟩ ?_ ?_
  · rintro i t ρ ht ⟨v5, rfl, hpre⟩
    obtain ⟨hi, rfl⟩ := rngL_at ht
    rw [Int.zero_add]
    rw [Nat.zero_add] at hpre ⊢
    refine TW.n rfl (by walk_at "lt") (by walk_at "set") ?_
    walk_at "wp"
    refine FW.lawStock (by omega) ?_
    walk_at "wp"
    refine BoW.d (fun hneg => ?_) fun hpos => ?_
    · walk_at "wp"
      exact h1 i _ (bad_is hi hneg hpre)
    · walk_at "wp"
      refine ⟨_, rfl, fun e he => ?_⟩
      rcases Nat.lt_succ_iff_lt_or_eq.mp he with h | h
      · exact hpre e h
      · subst h; omega
  · rintro ρ ⟨v5, rfl, hpre⟩
    rw [rngL_len, Nat.zero_add] at hpre
    walk_at "wp"
    exact h2 (bad_is0 hpre) _
theorem sumA_int (ds : List (Nat × Nat)) : (ds.map fun p => (p.1 : Int)).sum = (sumA ds : Int) := by
  induction ds with
  | nil => rfl
  | cons p ds ih => simp only [List.map_cons, List.sum_cons, ih, sumA, Int.natCast_add]
theorem FW.due {z : PySem.Str} (hz : OkT 40000 z) {P : PV.Tm → List PV.Tm → Prop} {X : Er → List PV.Tm → Prop} (h : P (.v .F (LW.due z)) []) : FW den__law_due [.v .B (.str z)] P X := by
  have hl := hz.1
  have hT : ∀ i : Nat, scan (rowsOf z) 0 [] = .inl i → LW.due z = .tup [.str "text", .int (i : Int)] := fun i hi => by unfold LW.due; rw [hi]
  refine FW.def (ρ0 := [some (.v .B (.str z)), none, none, none, none, none, none]) rfl ?_
  unfold d__law_due
  walk_at "wp"
  refine ⟨_, _, Is.v, ?_⟩
  walk_at "wp"
  refine ⟨_, _, Is.v, by decide +kernel, by rw [sizeLine_eq]; omega, ?_⟩
  show ∃ ts, itemsEnA (.v .O (.lst ((rowsOf z).map D.str))) = some ts ∧ _
  refine ⟨_, rfl, ?_⟩
  rw [enum_map]
  refine ForW.data (fun pre ρ => ∃ (ds : List (Nat × Nat)) (v2 v3 v4 : Option PV.Tm), ρ = [some (.v .B (.str z)), some (.v .O (.lst (ds.map pD))), v2, v3, v4, none, none] ∧ scan (rowsOf z) 0 [] = scan ((rowsOf z).drop pre.length) pre.length ds ∧ ds.length = pre.length ∧ ds.length ≤ 60 ∧ sumA ds ≤ 40) ((rowsOf z).mapIdx fun i x => (0 + i, x)) ⟨[], _, _, _, rfl, rfl, rfl, by simp, by simp [sumA]⟩ ?_ ?_
  · rintro pre q suf ρ hp ⟨ds, v2, v3, v4, rfl, hsc, hdl, hd6, hs4⟩
    obtain ⟨hq1, hdr, hmem⟩ := at_idx hp
    have hqz : OkT 40000 q.2 := hz.part sepNl hmem
    have hql := hqz.1
    rw [hdr] at hsc
    rw [List.length_append, List.length_singleton]
    show TW _ (.v _ (.tup [.int q.1, .str q.2])) _ _
    rw [hq1]
    walk_at "wp"
    refine ⟨_, _, Is.v, ?_⟩
    walk_at "wp"
    refine ⟨_, _, Is.v, by decide +kernel, by rw [sizeLine_eq]; omega, ?_⟩
    walk_at "wp"
    refine rows_cp hqz (fun {w} hw {P X} hp => FW.lawNum hw hp) rfl (by walk_at "lt") ?_
    walk_at "wp"
    rw [List.length_map]
    refine ⟨_, _, _, _, _, Is.v, Is.v, neD_int _ _, ?_⟩
    have hnone : rowP q.2 = none → P (.v .F (.tup [.str "text", .int (pre.length : Int)])) [] := fun e => by
      rw [scan_none e] at hsc
      rw [hT _ hsc] at h
      exact h
    refine BoW.d (fun h2 => ?_) fun h2 => ?_
    · have := hnone (by
        unfold rowP
        split
        · rename_i e; rw [e] at h2; exact absurd rfl h2
        · rfl)
      walk_at "wp"
      exact this
    obtain ⟨a, b, e⟩ : ∃ a b, rowO q.2 = [a, b] := by
      have h2 : (rowO q.2).length = 2 := by omega
      cases q : rowO q.2 with
      | nil => rw [q] at h2; simp at h2
      | cons a r =>
        cases q2 : r with
        | nil => rw [q, q2] at h2; simp at h2
        | cons b r2 =>
          cases r2 with
          | nil => exact ⟨a, b, rfl⟩
          | cons c r3 => rw [q, q2] at h2; simp at h2
    rw [e]
    walk_at "wp"
    refine ⟨_, _, _, _, _, Is.v, Is.loc rfl, inE_opt, ?_⟩
    refine BoW.d (fun h3 => ?_) fun h3 => ?_
    · have := hnone (by
        unfold rowP
        rw [e]
        rcases h3 with rfl | rfl
        · rfl
        · cases a <;> rfl)
      walk_at "wp"
      exact this
    cases a with
    | none => exact absurd (.inl rfl) h3
    | some a =>
      cases b with
      | none => exact absurd (.inr rfl) h3
      | some b =>
        have hP : rowP q.2 = some (a, b) := by unfold rowP; rw [e]
        rw [scan_some hP] at hsc
        walk_at "wp"
        refine BoW.d (fun h6 => ?_) fun h6 => ?_
        · rw [if_pos (.inl (by omega))] at hsc
          rw [hT _ hsc] at h
          walk_at "wp"
          exact h
        walk_at "wp"
        have eL : ds.map pD ++ [D.tup [optD (some a), optD (some b)]] = (ds ++ [(a, b)]).map pD := by rw [List.map_append]; rfl
        rw [eL]
        have hlen : (ds ++ [(a, b)]).length = pre.length + 1 := by rw [List.length_append, hdl]; rfl
        have hlt : pre.length < 60 := by omega
        refine EW.bor (t := .v .O (.lst ((ds ++ [(a, b)]).map pD))) (u := .v .B (.lst ((ds ++ [(a, b)]).map pD))) rfl rfl rfl (ρ1 := [some (.v .B (.str z)), some (.v .B (.lst ((ds ++ [(a, b)]).map pD))), some (.v .F (.int (pre.length : Int))), some (.v .F (.str q.2)), some (.v .O (.lst ([some a, some b].map optD))), none, none]) rfl ?_
        walk_at "wp"
        rw [List.map_map]
        refine CpW.map (inj := PV.Tm.v .B ∘ pD) (fun _ => true) (fun p => .int (p.1 : Int)) (ds ++ [(a, b)]) (fun _ => rfl) rfl (fun p _ => by walk_at "cp") (fun p _ _ => ?_) ?_ ?_
        · refine ⟨_, by walk_at "set", ?_⟩
          show EW _ [_, _, _, _, _, some (.v .B (.tup [.int (p.1 : Int), .int (p.2 : Int)])), _] _ _
          walk_at "wp"
          first | exact ⟨rfl, rfl⟩ | exact rfl
        · rw [filt_true, List.length_map, sizeLine_eq]; omega
        rw [filt_true]
        refine ⟨_, rfl, rfl, ?_⟩
        refine ⟨_, (ds ++ [(a, b)]).map fun p => (p.1 : Int), _, Is.v, .inl (by rw [lI, List.map_map]; rfl), ?_⟩
        rw [sumA_int, sumA_app]
        walk_at "wp"
        refine BoW.d (fun h7 => ?_) fun h7 => ?_
        · rw [if_pos (.inr (by omega))] at hsc
          rw [hT _ hsc] at h
          walk_at "wp"
          exact h
        · rw [if_neg (by omega)] at hsc
          walk_at "wp"
          exact ⟨ds ++ [(a, b)], _, _, _, rfl, hsc, hlen, by omega, by rw [sumA_app]; omega⟩
  · rintro ρ ⟨ds, v2, v3, v4, rfl, hsc, hdl, hd6, hs4⟩
    rw [List.length_mapIdx, List.drop_length, scan_nil] at hsc
    refine due2_ok hd6 (fun d ρ hb => ?_) fun hb ρ => ?_
    · have hd : LW.due z = .tup [.str "day", .int (d : Int)] := by unfold LW.due; rw [hsc]; dsimp only; rw [hb]
      rw [hd] at h
      walk_at "wp"
      exact h
    · have hd : LW.due z = .str z := by unfold LW.due; rw [hsc]; dsimp only; rw [hb]
      rw [hd] at h
      walk_at "wp"
      exact h
/-! k02: what is given can be shown; changes of a text -/
theorem scan_inl : ∀ (rs : List PySem.Str) (i j : Nat) (ds : List (Nat × Nat)), scan rs i ds = .inl j → j < i + rs.length
  | [], i, j, ds, h => by cases h
  | r :: rs, i, j, ds, h => by
    rw [List.length_cons]
    cases e : rowP r with
    | none => rw [scan_none e] at h; cases h; omega
    | some p =>
      rw [scan_some e] at h
      split at h
      · cases h; omega
      · have := scan_inl rs _ _ _ h; omega
theorem repr_word {w : PySem.Str} (hw : w = "text" ∨ w = "day") {i : Nat} (hi : i ≤ 1000000) : ∃ x, reprD2 (.tup [.str w, .int (i : Int)]) = some (.str x) := by
  have hs : Sh (i : Int) := sh_of ⟨by omega, by omega⟩
  have e1 := show_ints [(i : Int)] (fun x hx => by rw [List.mem_singleton.mp hx]; exact hs)
  have e2 := leaf_ints [(i : Int)] (fun x hx => by rw [List.mem_singleton.mp hx]; exact hs)
  have w1 := wt_int hs
  simp only [List.map_cons, List.map_nil] at e1 e2
  suffices main : ∃ x, reprD (.tup [.str w, .int (i : Int)]) = some (.str x) from main
  refine reprAny (ts := [.str w, .int (i : Int)]) (.inl (by simp [toPy, toPys])) ?_ ?_ ?_ ?_ ?_
  · rw [PyData.showableAll, e1]; rcases hw with rfl | rfl <;> decide +kernel
  · simp [PyData.hasDictAll, PyData.hasDict]
  · simp [PyData.depthAll, PyData.depth]
  · rw [PyData.leavesShortAll, e2]; rcases hw with rfl | rfl <;> decide +kernel
  · have : PyData.weight (.str w) ≤ 1000 := by rcases hw with rfl | rfl <;> decide +kernel
    simp only [PyData.weightAll] at *
    omega
theorem repr_due {z : PySem.Str} (hz : OkT 40000 z) : ∃ x, reprD2 (due z) = some (.str x) := by
  have hl := hz.1
  unfold due
  cases e : scan (rowsOf z) 0 [] with
  | inl i =>
    have h1 := scan_inl _ _ _ _ e
    have h2 : (rowsOf z).length ≤ 40001 := split_len sepNl hz
    exact repr_word (.inl rfl) (by omega)
  | inr ds =>
    dsimp only
    cases hb : bad ds with
    | some d =>
      have h1 := (find_range hb).1
      have h2 := (scan_inr _ 0 [] ds rfl (by simp) (by simp [sumA]) e).1
      exact repr_word (.inr rfl) (by omega)
    | none =>
      have h1 := PySem.StrLaws.reprText_len z (fun c hc => Nat.lt_trans (hz.2 c hc) (by decide))
      refine ⟨reprText z, ?_⟩
      show (if (reprText z).length ≤ sizeLine then some (D.str (reprText z)) else none) = _
      rw [if_pos (by rw [sizeLine_eq]; omega)]
def odd : List PySem.Str := ("" : PySem.Str) :: ("0" : PySem.Str) :: ("1 1" : PySem.Str) :: ("0 1" : PySem.Str) :: ("41 0" : PySem.Str) :: ("01" : PySem.Str) :: ("-1" : PySem.Str) :: ("+1" : PySem.Str) :: ("1_0" : PySem.Str) :: ("x" : PySem.Str) :: ("1 0 0" : PySem.Str) :: ("5" : PySem.Str) :: ("0 99" : PySem.Str) :: ("1.0" : PySem.Str) :: (repS "9" 5000 : PySem.Str) :: []
theorem okT_of {z : PySem.Str} {n : Nat} (h : (decide (z.length ≤ n) && (TL.tl z).all fun c => decide (c < 1114112)) = true) : OkT n z := by
  rw [Bool.and_eq_true] at h
  exact ⟨of_decide_eq_true h.1, fun c hc => of_decide_eq_true (List.all_eq_true.mp h.2 c hc)⟩
theorem okT_rep {z : PySem.Str} {n m : Nat} (h : OkT n z) : OkT (m * n) (repS z m) := by
  refine ⟨by rw [repS_len]; exact Nat.mul_le_mul (Nat.le_refl _) h.1, fun c hc => ?_⟩
  have e : TL.tl (repS z m) = (List.replicate m (TL.tl z)).flatten := by
    show ((List.replicate m z.cps).foldl (· ++ ·) #[]).toList = _
    rw [rep_list]; simp
  rw [e] at hc
  obtain ⟨l, hl, hc⟩ := List.mem_flatten.mp hc
  rw [(List.mem_replicate.mp hl).2] at hc
  exact h.2 c hc
theorem odd_ok : ∀ o ∈ odd, OkT 5000 o := by
  intro o ho
  unfold odd at ho
  simp only [List.mem_cons, List.not_mem_nil, or_false] at ho
  rcases ho with rfl | rfl | rfl | rfl | rfl | rfl | rfl | rfl | rfl | rfl | rfl | rfl | rfl | rfl | rfl
  all_goals exact okT_of (by decide +kernel)
theorem chEnd_ok {y : PySem.Str} {s n : Nat} (hy : SepS y s) {ps : List PySem.Str} (hw : wS ps ≤ n) (hn : n ≤ 1000000) (hp : ∀ p ∈ ps, ∀ c ∈ TL.tl p, c < 1114112) {v0 v1 v4 v5 v6 v7 v8 : Option PV.Tm} {N : Ss → Prop} {R : PV.Tm → Ss → Prop} {B C : Ss → Prop} {X : PX}
    (h : ∀ w, OkT n w → R (.v .F (.str w)) [v0, v1, some (.v .F (.str y)), some (.v .O (.lst (ps.map .str))), v4, v5, v6, v7, v8]) :
    SW (sRet (eJoin (eVar 2) (eVar 3))) [v0, v1, some (.v .F (.str y)), some (.v .O (.lst (ps.map .str))), v4, v5, v6, v7, v8] N R B C X := by
  refine SW.ret (EW.join (EW.var rfl (VarW.xF ⟨_, rfl, EW.var rfl (VarW.xO ?_)⟩)))
  refine ⟨_, ps, Is.loc rfl, ?_, ?_⟩
  · have h1 := wS_len ps
    have h2 : (ps.map (·.length)).sum ≤ wS ps := by
      clear h hp hw h1
      induction ps with
      | nil => simp
      | cons p ps ih =>
        unfold wS at ih ⊢
        simp only [List.map_cons, List.sum_cons]
        omega
    rw [hy.l1]
    omega
  · exact h _ (OkT.join hy hw hp)
theorem erase_mapS : ∀ (T : List PySem.Str) (k : Nat), (T.map D.str).eraseIdx k = (T.eraseIdx k).map D.str
  | [], k => rfl
  | t :: T, 0 => rfl
  | t :: T, k + 1 => by simp [erase_mapS T k]
theorem wS_set_eq : ∀ (ps : List PySem.Str) (k : Nat) (h : k < ps.length) (x : PySem.Str), wS (ps.set k x) + ps[k].length = wS ps + x.length
  | p :: ps, 0, h, x => by simp [wS]; omega
  | p :: ps, k + 1, h, x => by
    have := wS_set_eq ps k (by simpa using h) x
    simp [wS] at this ⊢; omega
theorem pop_atS (T : List PySem.Str) (k : Nat) (h : k < T.length) (hz : T.length ≤ 100000) : opPopAt (T.map .str) [.int (k : Int)] = some (.str T[k], (T.eraseIdx k).map .str) := by
  have e : seqIndex? (k : Int) (T.map D.str).length = some k := by
    have := seqIndex_of (k := (k : Int)) (n := (T.map D.str).length) (by omega) (by simp; omega)
    simpa using this
  have e2 : (T.map D.str)[k]? = some (.str T[k]) := by rw [List.getElem?_map, List.getElem?_eq_getElem h]; rfl
  unfold opPopAt
  simp only [e, e2]
  rw [if_pos ⟨by omega, by omega⟩, erase_mapS]
theorem ins_S (T : List PySem.Str) (k : Nat) (x : PySem.Str) (hz : k ≤ 100000) : opIns (T.map .str) [.int (k : Int), .str x] = some (.non, (T.take k ++ [x] ++ T.drop k).map .str) := by
  rw [opIns_eq]
  rw [if_pos ⟨by omega, by omega⟩, Int.toNat_natCast]
  simp only [List.map_append, List.map_take, List.map_drop, List.map_cons, List.map_nil]
theorem wS_app (a b : List PySem.Str) : wS (a ++ b) = wS a + wS b := by simp [wS]
theorem wS_cons (a : PySem.Str) (b : List PySem.Str) : wS (a :: b) = a.length + 1 + wS b := by simp [wS]
theorem wS_split (ps : List PySem.Str) (k : Nat) : wS (ps.take k) + wS (ps.drop k) = wS ps := by rw [← wS_app, List.take_append_drop]
theorem wS_erase (ps : List PySem.Str) (k : Nat) : wS (ps.eraseIdx k) ≤ wS ps := by
  rw [List.eraseIdx_eq_take_drop_succ, wS_app]
  have h1 := wS_split ps k
  have h2 := wS_split (ps.drop k) 1
  rw [List.drop_drop] at h2
  omega
theorem wS_set : ∀ (ps : List PySem.Str) (k : Nat) (x : PySem.Str), wS (ps.set k x) ≤ wS ps + x.length + 1
  | [], k, x => by simp [wS]
  | p :: ps, 0, x => by rw [List.set_cons_zero, wS_cons, wS_cons]; omega
  | p :: ps, k + 1, x => by
    have := wS_set ps k x
    rw [List.set_cons_succ, wS_cons, wS_cons]; omega
theorem ixN_nat {n k : Nat} (h : k < n) : ixN n (k : Int) = some k := by
  unfold ixN
  rw [if_pos (by omega), if_pos (by omega), Int.toNat_natCast]
theorem FW.pickS {d s : Int} {z : PySem.Str} {P : PV.Tm → List PV.Tm → Prop} {X : Er → List PV.Tm → Prop} (h0 : 0 < z.length) (h1 : z.length < 100000) (k : ∀ c d' s', c ∈ TL.tl z → P (.v .F (.str ⟨#[c]⟩)) [feedT d' s']) : FW den__law_pick [feedT d s, .v .B (.str z)] P X := by
  refine FW.def (ρ0 := [some (feedT d s), some (.v .B (.str z))]) rfl ?_
  unfold d__law_pick
  have hz : z.length ≤ sizeLine := by rw [sizeLine_eq]; omega
  walk_at "wp"
  refine FW.take (by omega) (by omega) fun x d' s' lo hi => ?_
  walk_at "wp"
  obtain ⟨n, rfl⟩ := Int.eq_ofNat_of_zero_le lo
  have hl : n < (TL.tl z).length := by rw [tl_len]; omega
  refine IdxW.str (by walk_at "is") (by walk_at "is") hz (c := (TL.tl z)[n]) (atN (List.getElem?_eq_getElem hl)) ?_
  walk_at "wp"
  exact k _ _ _ (List.getElem_mem hl)
theorem FW.changed {z : PySem.Str} {n : Nat} (hz : OkT n z) (hn : n ≤ 40000) {d s : Int} {P : PV.Tm → List PV.Tm → Prop} {X : Er → List PV.Tm → Prop} (h : ∀ d s w, OkT (2 * n + 5003) w → P (.v .F (.str w)) [feedT d s]) : FW den__law_changed [feedT d s, .v .B (.str z)] P X := by
  have hl := hz.1
  refine FW.def (ρ0 := [some (feedT d s), some (.v .B (.str z)), none, none, none, none, none, none, none]) rfl ?_
  unfold d__law_changed
  walk_at "wp"
  refine FW.pick (by simp) (by simp) fun x d s hx => ?_
  obtain ⟨y, sg, rfl, hy⟩ : ∃ y sg, x = .str y ∧ SepS y sg := by
    simp only [List.mem_cons, List.not_mem_nil, or_false] at hx
    rcases hx with rfl | rfl | rfl
    · exact ⟨_, _, rfl, sepNl⟩
    · exact ⟨_, _, rfl, sepNl⟩
    · exact ⟨_, _, rfl, sepSp⟩
  clear hx
  walk_at "wp"
  refine ⟨_, _, Is.v, ?_⟩
  walk_at "wp"
  refine ⟨_, _, Is.v, by rw [hy.l1]; rfl, by rw [sizeLine_eq]; omega, ?_⟩
  have hsn := split_ne hy z
  have hsl := split_len hy hz
  have hsw := split_wS hy z
  have hso : ∀ p ∈ Txt.split z y, OkT n p := fun p hp => hz.part hy hp
  generalize Txt.split z y = ps at *
  have hpos : 0 < ps.length := List.length_pos_iff.mpr hsn
  walk_at "wp"
  rw [List.length_map]
  refine FW.take (by omega) (by omega) fun x d s lo1 hi1 => ?_
  obtain ⟨a, rfl⟩ := Int.eq_ofNat_of_zero_le lo1
  walk_at "wp"
  rw [List.length_map]
  refine FW.take (by omega) (by omega) fun x d s lo2 hi2 => ?_
  obtain ⟨b, rfl⟩ := Int.eq_ofNat_of_zero_le lo2
  walk_at "wp"
  refine FW.take (by omega) (by omega) fun x d s lo3 hi3 => ?_
  walk_at "wp"
  refine ⟨_, _, _, _, Is.v, Is.v, ⟨by decide, by decide, by decide +kernel, by decide +kernel⟩, ?_⟩
  walk_at "wp"
  have eo : (D.str "" : D) :: (D.str "0" : D) :: (D.str "1 1" : D) :: (D.str "0 1" : D) :: (D.str "41 0" : D) :: (D.str "01" : D) :: (D.str "-1" : D) :: (D.str "+1" : D) :: (D.str "1_0" : D) :: (D.str "x" : D) :: (D.str "1 0 0" : D) :: (D.str "5" : D) :: (D.str "0 99" : D) :: (D.str "1.0" : D) :: (D.str (repS "9" (Int.toNat 5000)) : D) :: [] = odd.map D.str := rfl
  rw [eo]
  have hch : ∀ p ∈ ps, ∀ c ∈ TL.tl p, c < 1114112 := fun p hp => (hso p hp).2
  have hal : a < ps.length := by omega
  have hbl : b < ps.length := by omega
  have hpa : (ps.map D.str)[a]? = some (.str ps[a]) := by rw [List.getElem?_map, List.getElem?_eq_getElem hal]; rfl
  have hpb : (ps.map D.str)[b]? = some (.str ps[b]) := by rw [List.getElem?_map, List.getElem?_eq_getElem hbl]; rfl
  have hqa := (hso _ (List.getElem_mem hal)).1
  have hqb := (hso _ (List.getElem_mem hbl)).1
  refine ⟨_, _, _, _, _, Is.v, Is.v, eqD_int _ _, ?_⟩
  refine BoW.d (fun _ => ?_) fun _ => ?_
  · walk_at "wp"
    refine lm5 (xs := ps.map D.str) rfl (pop_atS ps a hal (by omega)) (by rw [List.length_map, List.length_eraseIdx, sizeLine_eq]; split <;> omega) (by walk_at "set") ?_
    refine chEnd_ok hy (n := 2 * n + 5003) (by have := wS_erase ps a; omega) (by omega) (fun p hp => hch p (List.mem_of_mem_eraseIdx hp)) fun w hw => ?_
    walk_at "wp"
    exact h _ _ _ hw
  walk_at "wp"
  refine ⟨_, _, _, _, _, Is.v, Is.v, eqD_int _ _, ?_⟩
  refine BoW.d (fun _ => ?_) fun _ => ?_
  · walk_at "wp"
    refine IdxW.lO (by walk_at "is") (by walk_at "is") (atN hpa) ?_
    walk_at "wp"
    refine lm5 (xs := ps.map D.str) rfl (ins_S ps b ps[a] (by omega)) (by simp only [List.length_map, List.length_append, List.length_take, List.length_drop, List.length_singleton, sizeLine_eq]; omega) (by walk_at "set") ?_
    refine chEnd_ok hy (n := 2 * n + 5003) ?_ (by omega) (fun p hp => ?_) fun w hw => ?_
    · rw [wS_app, wS_app, wS_cons]
      have := wS_split ps b
      show wS (ps.take b) + (ps[a].length + 1 + 0) + wS (ps.drop b) ≤ _
      omega
    · rcases List.mem_append.mp hp with hp | hp
      · rcases List.mem_append.mp hp with hp | hp
        · exact hch p (List.mem_of_mem_take hp)
        · rw [List.mem_singleton.mp hp]; exact hch _ (List.getElem_mem hal)
      · exact hch p (List.mem_of_mem_drop hp)
    walk_at "wp"
    exact h _ _ _ hw
  walk_at "wp"
  refine ⟨_, _, _, _, _, Is.v, Is.v, eqD_int _ _, ?_⟩
  refine BoW.d (fun _ => ?_) fun _ => ?_
  · walk_at "wp"
    refine IdxW.lO (by walk_at "is") (by walk_at "is") (atN hpb) ?_
    walk_at "wp"
    refine IdxW.lO (by walk_at "is") (by walk_at "is") (atN hpa) ?_
    walk_at "wp"
    refine ⟨_, a, rfl, by rw [List.length_map]; exact ixN_nat hal, _, by walk_at "set", ?_⟩
    walk_at "wp"
    refine ⟨_, b, rfl, by rw [List.length_set, List.length_map]; exact ixN_nat hbl, _, by walk_at "set", ?_⟩
    have e9 : ((ps.map D.str).set a (.str ps[b])).set b (.str ps[a]) = ((ps.set a ps[b]).set b ps[a]).map D.str := by rw [List.map_set, List.map_set]
    rw [e9]
    refine TsW.nil ?_
    have hbl2 : b < (ps.set a ps[b]).length := by rw [List.length_set]; exact hbl
    have hg : (ps.set a ps[b])[b] = ps[b] := by
      rw [List.getElem_set]; split <;> rfl
    refine chEnd_ok hy (n := 2 * n + 5003) ?_ (by omega) (fun p hp => ?_) fun w hw => ?_
    · have h1 := wS_set_eq ps a hal ps[b]
      have h2 := wS_set_eq (ps.set a ps[b]) b hbl2 ps[a]
      rw [hg] at h2
      omega
    · rcases List.mem_or_eq_of_mem_set hp with hp | rfl
      · rcases List.mem_or_eq_of_mem_set hp with hp | rfl
        · exact hch p hp
        · exact hch _ (List.getElem_mem hbl)
      · exact hch _ (List.getElem_mem hal)
    walk_at "wp"
    exact h _ _ _ hw
  walk_at "wp"
  refine ⟨_, _, _, _, _, Is.v, Is.v, eqD_int _ _, ?_⟩
  refine BoW.d (fun _ => ?_) fun _ => ?_
  · walk_at "wp"
    refine FW.pick (by decide) (by decide) fun x d s hx => ?_
    obtain ⟨o, ho, rfl⟩ := List.mem_map.mp hx
    have hoo := odd_ok o ho
    have hol := hoo.1
    walk_at "wp"
    refine ⟨_, a, rfl, by rw [List.length_map]; exact ixN_nat hal, _, by walk_at "set", ?_⟩
    show SW _ [_, _, _, some (.v .O (.lst ((ps.map D.str).set a (.str o)))), _, _, _, _, _] _ _ _ _ _
    rw [show (ps.map D.str).set a (.str o) = (ps.set a o).map D.str by rw [List.map_set]]
    refine chEnd_ok hy (n := 2 * n + 5003) ?_ (by omega) (fun p hp => ?_) fun w hw => ?_
    · have h1 := wS_set ps a o
      omega
    · rcases List.mem_or_eq_of_mem_set hp with hp | rfl
      · exact hch p hp
      · exact hoo.2
    walk_at "wp"
    exact h _ _ _ hw
  walk_at "wp"
  refine ⟨_, _, _, _, _, Is.v, Is.v, eqD_int _ _, ?_⟩
  refine BoW.d (fun _ => ?_) fun _ => ?_
  · walk_at "wp"
    refine FW.pick (by decide) (by decide) fun x d s hx => ?_
    obtain ⟨o, ho, rfl⟩ := List.mem_map.mp hx
    have hoo := odd_ok o ho
    have hol := hoo.1
    walk_at "wp"
    refine lm5 (xs := ps.map D.str) rfl (ins_S ps a o (by omega)) (by simp only [List.length_map, List.length_append, List.length_take, List.length_drop, List.length_singleton, sizeLine_eq]; omega) (by walk_at "set") ?_
    refine chEnd_ok hy (n := 2 * n + 5003) ?_ (by omega) (fun p hp => ?_) fun w hw => ?_
    · rw [wS_app, wS_app, wS_cons]
      have := wS_split ps a
      show wS (ps.take a) + (o.length + 1 + 0) + wS (ps.drop a) ≤ _
      omega
    · rcases List.mem_append.mp hp with hp | hp
      · rcases List.mem_append.mp hp with hp | hp
        · exact hch p (List.mem_of_mem_take hp)
        · rw [List.mem_singleton.mp hp]; exact hoo.2
      · exact hch p (List.mem_of_mem_drop hp)
    walk_at "wp"
    exact h _ _ _ hw
  walk_at "wp"
  refine FW.take (by omega) (by omega) fun x d s lo5 hi5 => ?_
  walk_at "wp"
  refine SlW.str Is.v (by rw [sizeLine_eq]; omega) ?_
  walk_at "wp"
  refine FW.pickS (by decide +kernel) (by decide +kernel) fun c d s hc => ?_
  walk_at "wp"
  have hcc : c < 1114112 := by
    have : (TL.tl (" \n0123459-_xA" : PySem.Str)).all (fun c => decide (c < 1114112)) = true := by decide +kernel
    exact of_decide_eq_true (List.all_eq_true.mp this c hc)
  have ho1 : OkT 1 (⟨#[c]⟩ : PySem.Str) := ⟨Nat.le_refl _, fun e he => by rw [List.mem_singleton.mp (show e ∈ [c] from he)]; exact hcc⟩
  have h1 := (hz.cut none (some x)).app ho1
  refine AddW.ss (by walk_at "is") (by walk_at "is") (by have := (hz.cut none (some x)).1; have := ho1.1; rw [sizeLine_eq]; omega) ?_
  walk_at "wp"
  refine FW.take (by omega) (by omega) fun x2 d s lo6 hi6 => ?_
  walk_at "wp"
  refine SlW.str Is.v (by rw [sizeLine_eq]; omega) ?_
  have h2 := h1.app (hz.cut (some (x + x2)) none)
  refine AddW.ss (by walk_at "is") (by walk_at "is") (by have := h1.1; have := (hz.cut (some (x + x2)) none).1; rw [sizeLine_eq]; omega) ?_
  walk_at "wp"
  exact h _ _ _ (h2.mono (by omega))
def lwD : Sm := (sIf (eNe (eComp (itSeq (eF (eVar 4))) [9] (tgN 9) (eNe (eRepr2 (eCall den__law_told [.b] (gCons (eVar 9) gNil))) (eRepr2 (eCall den__law_due [.b] (gCons (eVar 9) gNil)))) (eF (eVar 9))) (eLst gNil))
    (sRet (eC (.bl false)))
    sNil)
def lwC : Sm := (sSeq (sFor (itR1 (eC (.int 18))) (tgN 8)
    (sSeq (sSet 9 (eCall den__law_text [.b] (gCons (eCall den__law_days [.io, .b, .b] (gCons (eVar 3) (gCons (eCall den__law_pick [.io, .b] (gCons (eVar 3) (gCons (eLst (gCons (eC (.int 1)) (gCons (eC (.int 3)) (gCons (eC (.int 6)) gNil)))) gNil))) (gCons (eC (.int 12)) gNil)))) gNil)))
    (sSeq (sFor (itR1 (eCall den__law_pick [.io, .b] (gCons (eVar 3) (gCons (eLst (gCons (eC (.int 0)) (gCons (eC (.int 1)) (gCons (eC (.int 1)) (gCons (eC (.int 2)) (gCons (eC (.int 3)) gNil)))))) gNil)))) (tgN 10)
    (sSet 9 (eCall den__law_changed [.io, .b] (gCons (eVar 3) (gCons (eVar 9) gNil)))))
    (sExpr (eLm opApp 4 (gCons (eF (eVar 9)) gNil))))))
    lwD)
def lwB : Sm := (sSeq (sPar [5, 6] (gCons (eCall den__law_take [.io, .b] (gCons (eVar 3) (gCons (eC (.int 64)) gNil))) (gCons (eCall den__law_pick [.io, .b] (gCons (eVar 3) (gCons (eLst (gCons (eC (.str "x")) (gCons (eC (.str "")) (gCons (eC (.str "01 0")) (gCons (eC (.str "1 0 0")) (gCons (eC (.str "41 0")) gNil)))))) gNil))) gNil)))
    (sSeq (sFor (itSeq (eLst (gCons (eAdd (eAdd (eMul (eLst (gCons (eC (.str "0 0")) gNil)) (eVar 5)) (eLst (gCons (eF (eVar 6)) gNil))) (eMul (eLst (gCons (eC (.str "0 0")) gNil)) (eC (.int 62)))) (gCons (eAdd (eMul (eLst (gCons (eC (.str "1 0")) gNil)) (eC (.int 41))) (eMul (eLst (gCons (eC (.str "0 0")) gNil)) (eC (.int 30)))) gNil)))) (tgN 7)
    (sExpr (eLm opApp 4 (gCons (eJoin (eC (.str "\n")) (eVar 7)) gNil))))
    (sSeq (sFor (itSeq (eLst (gCons (eMul (eLst (gCons (eC (.str "0 0")) gNil)) (eC (.int 60))) (gCons (eMul (eLst (gCons (eC (.str "0 0")) gNil)) (eC (.int 61))) (gCons (eAdd (eMul (eLst (gCons (eC (.str "1 0")) gNil)) (eC (.int 41))) (eLst (gCons (eC (.str "x")) gNil))) (gCons (eAdd (eMul (eLst (gCons (eC (.str "0 0")) gNil)) (eC (.int 61))) (eLst (gCons (eC (.str "x")) gNil))) gNil)))))) (tgN 7)
    (sExpr (eLm opApp 4 (gCons (eJoin (eC (.str "\n")) (eVar 7)) gNil))))
    (sSeq (sExpr (eLm opApp 4 (gCons (eJoin (eC (.str "\n")) (eAdd (eLst (gCons (eC (.str "0 1")) gNil)) (eMul (eLst (gCons (eC (.str "0 0")) gNil)) (eC (.int 60))))) gNil)))
    lwC))))
def lwA : Sm := (sSeq (sSet 4 (eLst (gCons (eC (.str "")) (gCons (eC (.str "\n")) (gCons (eC (.str " ")) (gCons (eC (.str "0 0")) (gCons (eC (.str "0 1")) (gCons (eC (.str "40 0")) (gCons (eC (.str "41 0")) (gCons (eC (.str "20 0\n21 0")) (gCons (eC (.str "1 0\n0 2\nx")) (gCons (eC (.str "0 1\n0 1")) gNil))))))))))))
    (sSeq (sSet 4 (eAdd (eVar 4) (eLst (gCons (eC (.str "1 2\n41 0")) (gCons (eAdd (eC (.str "0 ")) (eVar 1)) (gCons (eAdd (eVar 1) (eC (.str " 0"))) (gCons (eAdd (eC (.str "1 0\n0 1")) (eMulS (eC (.str "0")) (eC (.int 5000)))) (gCons (eC (.str "0 0\n")) (gCons (eC (.str "\n0 0")) gNil)))))))))
    (sSeq (sSet 4 (eAdd (eVar 4) (eLst (gCons (eC (.str "0  0")) (gCons (eC (.str "0 0 ")) (gCons (eC (.str " 0 0")) (gCons (eC (.str "40 40")) (gCons (eC (.str "40 41")) (gCons (eC (.str "1_0 0")) (gCons (eC (.str "1 1_0")) gNil))))))))))
    lwB)))
abbrev FAR : PySem.Str := repS "9" (Int.toNat 5000)
abbrev S11 (v0 v1 v2 v3 v4 v5 v6 v7 v8 v9 v10 : Option PV.Tm) : Ss := [v0, v1, v2, v3, v4, v5, v6, v7, v8, v9, v10]
def HidF (v : Option PV.Tm) : Prop := v = none ∨ ∃ d, v = some (.v .F d)
def OkL (ts : List PySem.Str) : Prop := ∀ t ∈ ts, OkT 40000 t
theorem OkL.app {a b : List PySem.Str} (h : OkL a) (k : OkL b) : OkL (a ++ b) := fun t ht => by
  rcases List.mem_append.mp ht with ht | ht
  · exact h t ht
  · exact k t ht
theorem OkL.one {w : PySem.Str} (h : OkT 40000 w) : OkL [w] := fun t ht => by rw [List.mem_singleton.mp ht]; exact h
theorem lwD_ok {ts : List PySem.Str} (h : OkL ts) (hl : ts.length ≤ 1000) {v0 v1 v2 v3 v5 v6 v7 v8 v9 v10 : Option PV.Tm} (h9 : HidF v9) {N : Ss → Prop} {R : PV.Tm → Ss → Prop} {B C : Ss → Prop} {X : PX}
    (hN : ∀ v4, N (S11 v0 v1 v2 v3 v4 v5 v6 v7 v8 v9 v10)) :
    SW lwD (S11 v0 v1 v2 v3 (some (.v .O (.lst (ts.map .str)))) v5 v6 v7 v8 v9 v10) N R B C X := by
  unfold lwD S11
  have hv : hideOk [v0, v1, v2, v3, some (.v .F (.lst (ts.map .str))), v5, v6, v7, v8, v9, v10] 9 = true := by
    rcases h9 with rfl | ⟨d, rfl⟩ <;> rfl
  walk_at "wp"
  rw [List.map_map]
  refine CpW.map (inj := PV.Tm.v .F ∘ D.str) (fun _ => false) (fun w => .str w) ts (fun _ => rfl) hv (fun w hw => ?_) (fun a _ h => by cases h) ?_ ?_
  · have hz := h w hw
    obtain ⟨x, hx⟩ := repr_due hz
    refine ⟨_, by walk_at "set", ?_⟩
    show EW _ [_, _, _, _, _, _, _, _, _, some (.v .F (.str w)), _] _ _
    walk_at "wp"
    refine FW.told hz ?_
    walk_at "wp"
    refine Rp2W.go Is.v hx ?_
    walk_at "wp"
    refine FW.due hz ?_
    walk_at "wp"
    refine Rp2W.go Is.v hx ?_
    refine ⟨_, _, _, _, _, Is.v, Is.v, neD_str _ _, ?_⟩
    rw [decide_eq_false (fun z => z rfl)]
    exact ⟨rfl, rfl⟩
  · rw [List.filter_eq_nil_iff.mpr (by simp), List.map_nil, List.length_nil, sizeLine_eq]; decide
  rw [List.filter_eq_nil_iff.mpr (by simp), List.map_nil]
  walk_at "wp"
  refine ⟨_, _, _, _, _, Is.v, Is.v, neD_lints [] [], ?_⟩
  refine BoW.d (fun z => absurd rfl z) fun _ => ?_
  walk_at "wp"
  exact hN _
def bnd : Nat → Nat
  | 0 => 36
  | i + 1 => 2 * bnd i + 5003
theorem txt_ok {ps : List (Nat × Nat)} (hl : ps.length ≤ 6) (hb : ∀ p ∈ ps, p.1 ≤ 60 ∧ p.2 ≤ 60) : OkT 36 (txtS ps) := by
  unfold txtS
  refine OkT.join sepNl ?_ fun w hw c hc => ?_
  · unfold wS
    have : ∀ m ∈ (ps.map rowS).map (fun p => p.length + 1), m ≤ 6 := fun m hm => by
      rw [List.map_map] at hm
      obtain ⟨p, hp, rfl⟩ := List.mem_map.mp hm
      have := rowS_len (hb p hp)
      show (rowS p).length + 1 ≤ 6
      omega
    have := sum_le_of this
    rw [List.length_map, List.length_map] at this
    omega
  · obtain ⟨p, hp, rfl⟩ := List.mem_map.mp hw
    rw [row_tl] at hc
    rcases List.mem_append.mp hc with hc | hc
    · have := TL.numL_digits _ c hc; omega
    · rcases List.mem_cons.mp hc with rfl | hc
      · omega
      · have := TL.numL_digits _ c hc; omega
theorem lwC_ok {ts : List PySem.Str} (h : OkL ts) (hl : ts.length ≤ 900) {d s : Int} {v0 v1 v2 v5 v6 v7 v8 v9 v10 : Option PV.Tm} (h9 : HidF v9) {N : Ss → Prop} {R : PV.Tm → Ss → Prop} {B C : Ss → Prop} {X : PX}
    (hN : ∀ d s v4 v8 v9 v10, HidF v9 → N (S11 v0 v1 v2 (some (feedT d s)) v4 v5 v6 v7 v8 v9 v10)) :
    SW lwC (S11 v0 v1 v2 (some (feedT d s)) (some (.v .O (.lst (ts.map .str)))) v5 v6 v7 v8 v9 v10) N R B C X := by
  unfold lwC S11
  refine SW.seq (SW.for ?_)
  walk_at "wp"
  refine ForW.num (fun i ρ => ∃ (us : List PySem.Str) (d s : Int) (v8 v9 v10 : Option PV.Tm), (OkL us ∧ us.length = ts.length + i ∧ HidF v9) ∧ ρ = S11 v0 v1 v2 (some (feedT d s)) (some (.v .O (.lst (us.map .str)))) v5 v6 v7 v8 v9 v10) _ 0 ⟨ts, _, _, _, _, _, ⟨h, rfl, h9⟩, rfl⟩ ?_ ?_
  · rintro i t ρ ht ⟨us, d, s, v8, v9, v10, ⟨hu, hul, h9⟩, rfl⟩
    obtain ⟨hi, rfl⟩ := rngL_at ht
    have hi2 : i < 18 := by simpa using hi
    unfold S11
    refine TW.n rfl (by walk_at "lt") (by walk_at "set") ?_
    walk_at "wp"
    refine FW.pick (by simp) (by simp) fun x d s hx => ?_
    obtain ⟨n, rfl, hn⟩ : ∃ n : Nat, x = .int (n : Int) ∧ n ≤ 6 := by
      simp only [List.mem_cons, List.not_mem_nil, or_false] at hx
      rcases hx with rfl | rfl | rfl
      · exact ⟨1, rfl, by omega⟩
      · exact ⟨3, rfl, by omega⟩
      · exact ⟨6, rfl, by omega⟩
    clear hx
    walk_at "wp"
    refine FW.days (u := 12) (by omega) (by omega) fun ps d s hpl hw hb hsm => ?_
    walk_at "wp"
    refine FW.text (by omega) hb ?_
    walk_at "wp"
    have h0 : OkT (bnd 0) (txtS ps) := txt_ok (by omega) hb
    generalize txtS ps = w0 at h0
    refine FW.pick (by simp) (by simp) fun x d s hx => ?_
    obtain ⟨m, rfl, hm⟩ : ∃ n : Nat, x = .int (n : Int) ∧ n ≤ 3 := by
      simp only [List.mem_cons, List.not_mem_nil, or_false] at hx
      rcases hx with rfl | rfl | rfl | rfl | rfl
      · exact ⟨0, rfl, by omega⟩
      · exact ⟨1, rfl, by omega⟩
      · exact ⟨1, rfl, by omega⟩
      · exact ⟨2, rfl, by omega⟩
      · exact ⟨3, rfl, by omega⟩
    clear hx
    walk_at "wp"
    rw [Int.toNat_natCast]
    refine ForW.num (fun j ρ => ∃ (w : PySem.Str) (d s : Int) (v10 : Option PV.Tm), (OkT (bnd j) w) ∧ ρ = S11 v0 v1 v2 (some (feedT d s)) (some (.v .O (.lst (us.map .str)))) v5 v6 v7 (some (.v .F (.int (0 + (i : Int))))) (some (.v .F (.str w))) v10) _ 0 ⟨w0, _, _, _, h0, rfl⟩ ?_ ?_
    · rintro j t ρ ht ⟨w, d, s, v10, hw, rfl⟩
      obtain ⟨hj, rfl⟩ := rngL_at ht
      rw [Nat.zero_add] at hw ⊢
      have hbj : bnd j ≤ 40000 := by
        have : j = 0 ∨ j = 1 ∨ j = 2 := by omega
        rcases this with rfl | rfl | rfl <;> decide
      unfold S11
      refine TW.n rfl (by walk_at "lt") (by walk_at "set") ?_
      walk_at "wp"
      refine FW.changed hw hbj fun d s w' hw' => ?_
      walk_at "wp"
      exact ⟨w', _, _, _, hw', rfl⟩
    · rintro ρ ⟨w, d, s, v10, hw, rfl⟩
      rw [rngL_len, Nat.zero_add] at hw
      have hbm : bnd m ≤ 40000 := by
        have : m = 0 ∨ m = 1 ∨ m = 2 ∨ m = 3 := by omega
        rcases this with rfl | rfl | rfl | rfl <;> decide
      unfold S11
      walk_at "wp"
      refine ⟨us ++ [w], _, _, _, _, _, ⟨hu.app (.one (hw.mono hbm)), by rw [List.length_append, hul]; rfl, .inr ⟨_, rfl⟩⟩, by rw [List.map_append]; rfl⟩
  · rintro ρ ⟨us, d, s, v8, v9, v10, ⟨hu, hul, h9⟩, rfl⟩
    rw [rngL_len] at hul
    have : (18 : Int).toNat = 18 := rfl
    exact lwD_ok hu (by omega) h9 fun v4 => hN _ _ _ _ _ _ h9
theorem rep_map (w : PySem.Str) : ∀ n : Nat, (List.replicate n [D.str w]).flatten = (List.replicate n w).map D.str
  | 0 => rfl
  | n + 1 => by rw [List.replicate_succ, List.flatten_cons, rep_map w n, List.replicate_succ]; rfl
def OkR (ps : List PySem.Str) : Prop := ps.length ≤ 200 ∧ ∀ p ∈ ps, OkT 10 p
theorem OkR.join {ps : List PySem.Str} (h : OkR ps) : (ps.map (·.length)).sum + ps.length * ("\n" : PySem.Str).length ≤ 16777216 ∧ OkT 40000 (Txt.join ("\n" : PySem.Str) ps) := by
  have h1 : ∀ m ∈ ps.map (fun p => p.length + 1), m ≤ 11 := fun m hm => by
    obtain ⟨p, hp, rfl⟩ := List.mem_map.mp hm
    have := (h.2 p hp).1
    show p.length + 1 ≤ 11
    omega
  have h2 := sum_le_of h1
  rw [List.length_map] at h2
  have hl := h.1
  constructor
  · have h3 : ∀ m ∈ ps.map (·.length), m ≤ 10 := fun m hm => by
      obtain ⟨p, hp, rfl⟩ := List.mem_map.mp hm
      exact (h.2 p hp).1
    have h4 := sum_le_of h3
    rw [List.length_map] at h4
    rw [nl_len]
    omega
  · exact OkT.join sepNl (by unfold wS; omega) fun p hp => (h.2 p hp).2
theorem okR_rep {w : PySem.Str} (hw : OkT 10 w) {n : Nat} (h : n ≤ 100) : OkR (List.replicate n w) := ⟨by rw [List.length_replicate]; omega, fun p hp => by rw [(List.mem_replicate.mp hp).2]; exact hw⟩
theorem OkR.app {a b : List PySem.Str} (h : OkR a) (k : OkR b) (hl : a.length + b.length ≤ 200) : OkR (a ++ b) := ⟨by rw [List.length_append]; exact hl, fun p hp => by
  rcases List.mem_append.mp hp with hp | hp
  · exact h.2 p hp
  · exact k.2 p hp⟩
theorem addM (xs ys : List PySem.Str) {ρ : Ss} {P : PV.Tm → Ss → Prop} (hz : xs.length + ys.length ≤ 1000) (p : P (.v .O (.lst ((xs ++ ys).map .str))) ρ) : AddW (.v .O (.lst (xs.map .str))) (.v .O (.lst (ys.map .str))) ρ P := by
  refine AddW.ll Is.v Is.v elkO elkO (by rw [List.length_map, List.length_map, sizeLine_eq]; omega) ?_
  rw [List.map_append] at p
  exact p
theorem mulM (w : PySem.Str) (n : Nat) {ρ : Ss} {P : PV.Tm → Ss → Prop} (hz : n ≤ 1000) (p : P (.v .O (.lst ((List.replicate n w).map .str))) ρ) : MulW (.v .O (.lst [D.str w])) (.v .F (.int (n : Int))) ρ P := by
  refine MulW.li (n := n) Is.v Is.v elkO (by omega) (by rw [sizeLine_eq]; show 1 * _ ≤ _; omega) ?_
  rw [rep_map]
  exact p
def jB : Sm := (sExpr (eLm opApp 4 (gCons (eJoin (eC (.str "\n")) (eVar 7)) gNil)))
theorem loopJ {pss : List (List PySem.Str)} (hp : ∀ ps ∈ pss, OkR ps) {ts : List PySem.Str} (h : OkL ts) (hl : ts.length + pss.length ≤ 900) {v0 v1 v2 v3 v5 v6 v7 v8 v9 v10 : Option PV.Tm} {N : Ss → Prop} {R : PV.Tm → Ss → Prop} {X : PX}
    (hN : ∀ us v7, OkL us → us.length = ts.length + pss.length → N (S11 v0 v1 v2 v3 (some (.v .O (.lst (us.map .str)))) v5 v6 v7 v8 v9 v10)) :
    ForW (tgN 7) jB ((pss.map fun ps => D.lst (ps.map .str)).map (PV.Tm.v .F)) (S11 v0 v1 v2 v3 (some (.v .O (.lst (ts.map .str)))) v5 v6 v7 v8 v9 v10) N R X := by
  refine ForW.data (k := .F) (f := fun ps => D.lst (ps.map .str)) (fun pre ρ => ∃ us v7, (OkL us ∧ us.length = ts.length + pre.length) ∧ ρ = S11 v0 v1 v2 v3 (some (.v .O (.lst (us.map .str)))) v5 v6 v7 v8 v9 v10) pss ⟨ts, _, ⟨h, rfl⟩, rfl⟩ ?_ ?_
  · rintro pre ps post ρ hx ⟨us, v7, ⟨hu, hul⟩, rfl⟩
    have hps : OkR ps := hp ps (by rw [hx]; simp)
    have hpl : pre.length < pss.length := by
      have := congrArg List.length hx
      rw [List.length_append, List.length_cons] at this
      omega
    unfold S11 jB
    refine TW.n rfl (by walk_at "lt") (by walk_at "set") ?_
    walk_at "wp"
    refine ⟨_, rfl, ?_⟩
    walk_at "wp"
    refine ⟨_, ps, Is.v, hps.join.1, ?_⟩
    walk_at "wp"
    refine ⟨us ++ [Txt.join "\n" ps], _, ⟨hu.app (.one hps.join.2), by rw [List.length_append, List.length_append, hul]; rfl⟩, by rw [List.map_append]; rfl⟩
  · rintro ρ ⟨us, v7, ⟨hu, hul⟩, rfl⟩
    exact hN _ _ hu hul
theorem lwB_ok {ts : List PySem.Str} (h : OkL ts) (hl : ts.length ≤ 100) {d s : Int} {v0 v1 v2 v5 v6 v7 v8 v9 v10 : Option PV.Tm} (h9 : HidF v9) {N : Ss → Prop} {R : PV.Tm → Ss → Prop} {B C : Ss → Prop} {X : PX}
    (hN : ∀ d s v4 v5 v6 v7 v8 v9 v10, HidF v9 → N (S11 v0 v1 v2 (some (feedT d s)) v4 v5 v6 v7 v8 v9 v10)) :
    SW lwB (S11 v0 v1 v2 (some (feedT d s)) (some (.v .O (.lst (ts.map .str)))) v5 v6 v7 v8 v9 v10) N R B C X := by
  have z0 : OkT 10 ("0 0" : PySem.Str) := okT_of (by decide +kernel)
  have z1 : OkT 10 ("1 0" : PySem.Str) := okT_of (by decide +kernel)
  have z2 : OkT 10 ("0 1" : PySem.Str) := okT_of (by decide +kernel)
  have zx : OkT 10 ("x" : PySem.Str) := okT_of (by decide +kernel)
  have one : ∀ {w : PySem.Str}, OkT 10 w → OkR [w] := fun {w} hw => okR_rep (n := 1) hw (by omega)
  unfold lwB S11
  walk_at "wp"
  refine FW.take (by omega) (by omega) fun x d s lo hi => ?_
  obtain ⟨a, rfl⟩ := Int.eq_ofNat_of_zero_le lo
  walk_at "wp"
  refine FW.pick (by simp) (by simp) fun x d s hx => ?_
  obtain ⟨b, rfl, hb⟩ : ∃ b : PySem.Str, x = .str b ∧ OkT 10 b := by
    simp only [List.mem_cons, List.not_mem_nil, or_false] at hx
    rcases hx with rfl | rfl | rfl | rfl | rfl <;> exact ⟨_, rfl, okT_of (by decide +kernel)⟩
  clear hx
  walk_at "wp"
  refine mulM "0 0" a (by omega) ?_
  walk_at "wp"
  refine addM (List.replicate a ("0 0" : PySem.Str)) [b] (by rw [List.length_replicate]; show _ + 1 ≤ _; omega) ?_
  walk_at "wp"
  refine mulM "0 0" 62 (by omega) ?_
  refine addM (List.replicate a ("0 0" : PySem.Str) ++ [b]) (List.replicate 62 ("0 0" : PySem.Str)) (by rw [List.length_append, List.length_replicate, List.length_replicate]; show _ + 1 + _ ≤ _; omega) ?_
  walk_at "wp"
  refine mulM "1 0" 41 (by omega) ?_
  walk_at "wp"
  refine mulM "0 0" 30 (by omega) ?_
  refine addM (List.replicate 41 ("1 0" : PySem.Str)) (List.replicate 30 ("0 0" : PySem.Str)) (by rw [List.length_replicate, List.length_replicate]; omega) ?_
  walk_at "wp"
  show ForW _ jB (([(List.replicate a ("0 0" : PySem.Str) ++ [b]) ++ List.replicate 62 ("0 0" : PySem.Str), List.replicate 41 ("1 0" : PySem.Str) ++ List.replicate 30 ("0 0" : PySem.Str)].map fun ps => D.lst (ps.map .str)).map (PV.Tm.v .F)) _ _ _ _
  have k1 : OkR ((List.replicate a ("0 0" : PySem.Str) ++ [b]) ++ List.replicate 62 ("0 0" : PySem.Str)) := ((okR_rep z0 (by omega)).app (one hb) (by rw [List.length_replicate]; show _ + 1 ≤ _; omega)).app (okR_rep z0 (by omega)) (by rw [List.length_append, List.length_replicate, List.length_replicate]; show _ + 1 + _ ≤ _; omega)
  have k2 : OkR (List.replicate 41 ("1 0" : PySem.Str) ++ List.replicate 30 ("0 0" : PySem.Str)) := (okR_rep z1 (by omega)).app (okR_rep z0 (by omega)) (by rw [List.length_replicate, List.length_replicate]; omega)
  refine loopJ (pss := [(List.replicate a ("0 0" : PySem.Str) ++ [b]) ++ List.replicate 62 ("0 0" : PySem.Str), List.replicate 41 ("1 0" : PySem.Str) ++ List.replicate 30 ("0 0" : PySem.Str)]) (fun ps hps => ?_) h (by show _ + 2 ≤ _; omega) fun us v7 hu hul => ?_
  · simp only [List.mem_cons, List.not_mem_nil, or_false] at hps
    rcases hps with rfl | rfl
    · exact k1
    · exact k2
  unfold S11
  walk_at "wp"
  refine mulM "0 0" 60 (by omega) ?_
  walk_at "wp"
  refine mulM "0 0" 61 (by omega) ?_
  walk_at "wp"
  refine mulM "1 0" 41 (by omega) ?_
  walk_at "wp"
  refine addM (List.replicate 41 ("1 0" : PySem.Str)) [("x" : PySem.Str)] (by rw [List.length_replicate]; show _ + 1 ≤ _; omega) ?_
  walk_at "wp"
  refine mulM "0 0" 61 (by omega) ?_
  walk_at "wp"
  refine addM (List.replicate 61 ("0 0" : PySem.Str)) [("x" : PySem.Str)] (by rw [List.length_replicate]; show _ + 1 ≤ _; omega) ?_
  walk_at "wp"
  show ForW _ jB (([List.replicate 60 ("0 0" : PySem.Str), List.replicate 61 ("0 0" : PySem.Str), List.replicate 41 ("1 0" : PySem.Str) ++ [("x" : PySem.Str)], List.replicate 61 ("0 0" : PySem.Str) ++ [("x" : PySem.Str)]].map fun ps => D.lst (ps.map .str)).map (PV.Tm.v .F)) _ _ _ _
  have hul : us.length = ts.length + 2 := hul
  refine loopJ (pss := [List.replicate 60 ("0 0" : PySem.Str), List.replicate 61 ("0 0" : PySem.Str), List.replicate 41 ("1 0" : PySem.Str) ++ [("x" : PySem.Str)], List.replicate 61 ("0 0" : PySem.Str) ++ [("x" : PySem.Str)]]) (fun ps hps => ?_) hu (by show _ + 4 ≤ _; omega) fun xs v7 hxs hxl => ?_
  · simp only [List.mem_cons, List.not_mem_nil, or_false] at hps
    rcases hps with rfl | rfl | rfl | rfl
    · exact okR_rep z0 (by omega)
    · exact okR_rep z0 (by omega)
    · exact (okR_rep z1 (by omega)).app (one zx) (by rw [List.length_replicate]; show _ + 1 ≤ _; omega)
    · exact (okR_rep z0 (by omega)).app (one zx) (by rw [List.length_replicate]; show _ + 1 ≤ _; omega)
  have hxl : xs.length = us.length + 4 := hxl
  unfold S11
  walk_at "wp"
  refine ⟨_, rfl, ?_⟩
  walk_at "wp"
  refine mulM "0 0" 60 (by omega) ?_
  refine addM [("0 1" : PySem.Str)] (List.replicate 60 ("0 0" : PySem.Str)) (by rw [List.length_replicate]; show 1 + _ ≤ _; omega) ?_
  have k3 : OkR ([("0 1" : PySem.Str)] ++ List.replicate 60 ("0 0" : PySem.Str)) := (one z2).app (okR_rep z0 (by omega)) (by rw [List.length_replicate]; show 1 + _ ≤ _; omega)
  refine ⟨_, [("0 1" : PySem.Str)] ++ List.replicate 60 ("0 0" : PySem.Str), Is.v, k3.join.1, ?_⟩
  generalize hJ : Txt.join ("\n" : PySem.Str) ([("0 1" : PySem.Str)] ++ List.replicate 60 ("0 0" : PySem.Str)) = J
  have hJ2 : OkT 40000 J := by rw [← hJ]; exact k3.join.2
  walk_at "wp"
  rw [show xs.map D.str ++ [D.str J] = (xs ++ [J]).map D.str by rw [List.map_append]; rfl]
  exact lwC_ok (hxs.app (.one hJ2)) (by rw [List.length_append]; show _ + 1 ≤ _; omega) h9 fun d s v4 v8 v9 v10 h9 => hN _ _ _ _ _ _ _ _ _ h9
theorem farOk : OkT 5000 FAR := okT_rep (m := 5000) (okT_of (n := 1) (by decide +kernel))
def txA : List PySem.Str := ("" : PySem.Str) :: ("\n" : PySem.Str) :: (" " : PySem.Str) :: ("0 0" : PySem.Str) :: ("0 1" : PySem.Str) :: ("40 0" : PySem.Str) :: ("41 0" : PySem.Str) :: ("20 0\n21 0" : PySem.Str) :: ("1 0\n0 2\nx" : PySem.Str) :: ("0 1\n0 1" : PySem.Str) :: []
def txB : List PySem.Str := ("1 2\n41 0" : PySem.Str) :: (("0 " : PySem.Str) ++ FAR : PySem.Str) :: (FAR ++ (" 0" : PySem.Str) : PySem.Str) :: (("1 0\n0 1" : PySem.Str) ++ repS "0" (Int.toNat 5000) : PySem.Str) :: ("0 0\n" : PySem.Str) :: ("\n0 0" : PySem.Str) :: []
def txC : List PySem.Str := ("0  0" : PySem.Str) :: ("0 0 " : PySem.Str) :: (" 0 0" : PySem.Str) :: ("40 40" : PySem.Str) :: ("40 41" : PySem.Str) :: ("1_0 0" : PySem.Str) :: ("1 1_0" : PySem.Str) :: []
theorem txA_ok : OkL txA := by
  intro t ht
  unfold txA at ht
  simp only [List.mem_cons, List.not_mem_nil, or_false] at ht
  rcases ht with rfl | rfl | rfl | rfl | rfl | rfl | rfl | rfl | rfl | rfl <;> exact okT_of (by decide +kernel)
theorem txC_ok : OkL txC := by
  intro t ht
  unfold txC at ht
  simp only [List.mem_cons, List.not_mem_nil, or_false] at ht
  rcases ht with rfl | rfl | rfl | rfl | rfl | rfl | rfl <;> exact okT_of (by decide +kernel)
theorem txB_ok : OkL txB := by
  have hf := farOk
  have h0 : OkT 5000 (repS "0" (Int.toNat 5000)) := okT_rep (m := 5000) (okT_of (n := 1) (by decide +kernel))
  have a1 : OkT 10 ("0 " : PySem.Str) := okT_of (by decide +kernel)
  have a2 : OkT 10 (" 0" : PySem.Str) := okT_of (by decide +kernel)
  have a3 : OkT 10 ("1 0\n0 1" : PySem.Str) := okT_of (by decide +kernel)
  intro t ht
  unfold txB at ht
  simp only [List.mem_cons, List.not_mem_nil, or_false] at ht
  rcases ht with rfl | rfl | rfl | rfl | rfl | rfl
  · exact okT_of (by decide +kernel)
  · exact (a1.app hf).mono (by omega)
  · exact (hf.app a2).mono (by omega)
  · exact (a3.app h0).mono (by omega)
  · exact okT_of (by decide +kernel)
  · exact okT_of (by decide +kernel)
theorem lwA_ok {d s : Int} {v0 v2 v4 v5 v6 v7 v8 v9 v10 : Option PV.Tm} (h9 : HidF v9) {N : Ss → Prop} {R : PV.Tm → Ss → Prop} {B C : Ss → Prop} {X : PX}
    (hN : ∀ d s v4 v5 v6 v7 v8 v9 v10, HidF v9 → N (S11 v0 (some (.v .F (.str FAR))) v2 (some (feedT d s)) v4 v5 v6 v7 v8 v9 v10)) :
    SW lwA (S11 v0 (some (.v .F (.str FAR))) v2 (some (feedT d s)) v4 v5 v6 v7 v8 v9 v10) N R B C X := by
  have hf := farOk
  have hfl := hf.1
  have l2 : ("0 " : PySem.Str).length = 2 := by decide +kernel
  have l3 : (" 0" : PySem.Str).length = 2 := by decide +kernel
  have l4 : ("1 0\n0 1" : PySem.Str).length = 7 := by decide +kernel
  have l5 : (repS "0" (Int.toNat 5000)).length ≤ 5000 := by rw [repS_len]; decide +kernel
  unfold lwA S11
  walk_at "wp"
  refine AddW.ss (by walk_at "is") (by walk_at "is") (by rw [l2, sizeLine_eq]; omega) ?_
  walk_at "wp"
  refine AddW.ss (by walk_at "is") (by walk_at "is") (by rw [l3, sizeLine_eq]; omega) ?_
  walk_at "wp"
  refine ⟨_, _, _, _, Is.v, Is.v, ⟨by decide, by decide, by decide +kernel, by decide +kernel⟩, ?_⟩
  refine AddW.ss (by walk_at "is") (by walk_at "is") (by rw [l4, sizeLine_eq]; omega) ?_
  walk_at "wp"
  refine AddW.ll (xs := txA.map .str) (ys := txB.map .str) (Is.loc rfl) Is.v elkO elkO (by rw [sizeLine_eq]; decide) ?_
  rw [← List.map_append]
  walk_at "wp"
  refine AddW.ll (xs := (txA ++ txB).map .str) (ys := txC.map .str) (Is.loc rfl) Is.v elkO elkO (by rw [sizeLine_eq]; decide) ?_
  rw [← List.map_append]
  refine ⟨rfl, by walk_at "lt", _, by walk_at "set", ?_⟩
  exact lwB_ok ((txA_ok.app txB_ok).app txC_ok) (by decide) h9 fun d s v4 v5 v6 v7 v8 v9 v10 h9 => hN _ _ _ _ _ _ _ _ _ h9
theorem law_true (ns : List Int) (h : ns.length ≤ 63) : den_law [.v .B (.scr ns)] = .ok (.v .F (.bl true)) [] := by
  have main : FW den_law [.v .B (.scr ns)] (fun r us => r = .v .F (.bl true) ∧ us = []) XF0 := by
    refine FW.def (ρ0 := S11 (some (.v .B (.scr ns))) none none none none none none none none none none) rfl ?_
    unfold d_law
    refine SW.seq ?_
    walk_at "wp"
    refine ⟨_, _, _, _, Is.v, Is.v, ⟨by decide, by decide, by decide +kernel, by decide +kernel⟩, ?_⟩
    refine ⟨rfl, by walk_at "lt", _, by walk_at "set", ?_⟩
    refine SW.seq (SW.for ?_)
    walk_at "wp"
    refine ForW.num (fun _ ρ => ∃ v2 v3 v4 v5 v6 v7 v8 v9 v10 : Option PV.Tm, HidF v9 ∧ ρ = S11 (some (.v .B (.scr ns))) (some (.v .F (.str FAR))) v2 v3 v4 v5 v6 v7 v8 v9 v10) _ 0 ⟨_, _, _, _, _, _, _, _, _, .inl rfl, rfl⟩ ?_ ?_
    · rintro i t ρ ht ⟨v2, v3, v4, v5, v6, v7, v8, v9, v10, h9, rfl⟩
      obtain ⟨hi, rfl⟩ := rngL_at ht
      rw [Int.zero_add]
      unfold S11
      refine TW.n rfl (by walk_at "lt") (by walk_at "set") ?_
      refine SW.seq ?_
      show SW _ _ (fun ρ1 => SW lwA ρ1 _ _ _ _ _) _ _ _ _
      walk_at "wp"
      refine FW.feed (by omega) fun d s => ?_
      walk_at "wp"
      exact lwA_ok h9 fun d s v4 v5 v6 v7 v8 v9 v10 h9 => ⟨_, _, _, _, _, _, _, _, _, h9, rfl⟩
    · rintro ρ ⟨v2, v3, v4, v5, v6, v7, v8, v9, v10, h9, rfl⟩
      unfold S11
      walk_at "wp"
      all_goals rfl
  obtain ⟨_, _, e, rfl, rfl⟩ := FW.get main
  exact e
end LW
open PySem PySem.W PyProof.Rows in
set_option maxRecDepth 100000 in
set_option maxHeartbeats 0 in
theorem PySem.Challenge.cw_soldages_k02_texts_of_logs_holds : PySem.Challenge.rw_soldages_k02_texts_of_logs.Holds := by
  w_on; o_law; k_head; (case hw => w_witness2)
  k_fill
  refine PV.walkG (l := PySem.Challenge.rw_soldages_k02_texts_of_logs) (n := 63) (k := 6) (x := "script") (f := LW.den_law) rfl (by decide) rfl ⟨⟨rfl, by decide, by decide⟩, rfl⟩ (fun w h Y => PySem.W.kIn_of Y) (fun ns hl => LW.law_true ns hl) ?F
  case F =>
    intro w mg fa h KX G hmg
    refine' LW.all_mk KX G hmg ?aC_Log ?a__law_feed ?l__law_feed ?c__law_feed ?k__law_feed ?a__law_take ?l__law_take ?c__law_take ?k__law_take ?a__law_pick ?l__law_pick ?c__law_pick ?k__law_pick ?a__law_text ?l__law_text ?c__law_text ?k__law_text ?a__law_days ?l__law_days ?c__law_days ?k__law_days ?a__law_changed ?l__law_changed ?c__law_changed ?k__law_changed ?a_stocks_of ?l_stocks_of ?c_stocks_of ?k_stocks_of ?a_repeated ?l_repeated ?c_repeated ?k_repeated ?a_Logx_initx ?i_Logx_initx ?l_Logx_initx ?c_Logx_initx ?k_Logx_initx ?a_read_number ?l_read_number ?c_read_number ?k_read_number ?a_read_day ?l_read_day ?c_read_day ?k_read_day ?a_Log_parse ?pc_Log_parse ?pf_Log_parse ?cr1_Log_parse ?cr2_Log_parse ?l_Log_parse ?c_Log_parse ?k_Log_parse ?a_Logx_strx ?i_Logx_strx ?l_Logx_strx ?c_Logx_strx ?k_Logx_strx ?a__law_told ?l__law_told ?c__law_told ?k__law_told ?a__law_number ?l__law_number ?c__law_number ?k__law_number ?a__law_stock ?l__law_stock ?c__law_stock ?k__law_stock ?a__law_due ?l__law_due ?c__law_due ?k__law_due ?a_law ?l_law ?c_law ?k_law ?cg_Log ?ch_Log ?co_Log ?cs_Log ?na_Log_days ?na_Log_stocks ?na_Log_days_in ?na_Log_days_out ?cm_Log ?ck_Log ?aC_StoreError ?xk_StoreError ?xe_StoreError ?xy_StoreError ?xs_StoreError ?xq_StoreError ?aC_InvalidText ?xk_InvalidText ?xe_InvalidText ?xy_InvalidText ?xs_InvalidText ?xL_InvalidText ?xsa_InvalidText ?xga_InvalidText ?xgg_InvalidText ?xnb_InvalidText ?xi_InvalidText ?xt_InvalidText ?xl_InvalidText ?xc_InvalidText ?xh_InvalidText ?aC_NotLawful ?xk_NotLawful ?xe_NotLawful ?xy_NotLawful ?xs_NotLawful ?xL_NotLawful ?xsa_NotLawful ?xga_NotLawful ?xgg_NotLawful ?xnb_NotLawful ?xi_NotLawful ?xt_NotLawful ?xl_NotLawful ?xc_NotLawful ?xh_NotLawful ?xp_StoreError_StoreError ?xp_StoreError_InvalidText ?xp_StoreError_NotLawful ?xp_InvalidText_StoreError ?xp_InvalidText_InvalidText ?xp_InvalidText_NotLawful ?xp_NotLawful_StoreError ?xp_NotLawful_InvalidText ?xp_NotLawful_NotLawful ?xca_InvalidText ?xcn_InvalidText ?xcv_InvalidText ?xcm_InvalidText ?kx_InvalidText_InvalidText ?kx_InvalidText_NotLawful ?xca_NotLawful ?xcn_NotLawful ?xcv_NotLawful ?xcm_NotLawful ?kx_NotLawful_InvalidText ?kx_NotLawful_NotLawful ?oa_Log ?on_Log ?ot_Log ?om_Log ?oe_Log ?ki_Log_NoneType ?ki_Log_bool ?ki_Log_int ?ki_Log_str ?ki_Log_tuple ?ki_Log_list ?ki_Log_dict ?z_abs ?z_all ?z_enumerate ?z_int ?z_isinstance ?z_len ?z_list ?z_max ?z_min ?z_range ?z_repr ?z_str ?z_sum ?z_tuple ?z_zip ?gq_DIGITS ?gq_MANY ?gq_MAX_DAYS ?gq_MAX_UNITS
    (case aC_Log => k_is)
    (case a__law_feed => k_is)
    (case l__law_feed => k_is)
    (case c__law_feed => k_is)
    (case k__law_feed => k_is)
    (case a__law_take => k_is)
    (case l__law_take => k_is)
    (case c__law_take => k_is)
    (case k__law_take => k_is)
    (case a__law_pick => k_is)
    (case l__law_pick => k_is)
    (case c__law_pick => k_is)
    (case k__law_pick => k_is)
    (case a__law_text => k_is)
    (case l__law_text => k_is)
    (case c__law_text => k_is)
    (case k__law_text => k_is)
    (case a__law_days => k_is)
    (case l__law_days => k_is)
    (case c__law_days => k_is)
    (case k__law_days => k_is)
    (case a__law_changed => k_is)
    (case l__law_changed => k_is)
    (case c__law_changed => k_is)
    (case k__law_changed => k_is)
    (case a_stocks_of => k_is)
    (case l_stocks_of => k_is)
    (case c_stocks_of => k_is)
    (case k_stocks_of => k_is)
    (case a_repeated => k_is)
    (case l_repeated => k_is)
    (case c_repeated => k_is)
    (case k_repeated => k_is)
    (case a_Logx_initx => k_is)
    (case i_Logx_initx => k_is)
    (case l_Logx_initx => k_is)
    (case c_Logx_initx => k_is)
    (case k_Logx_initx => k_is)
    (case a_read_number => k_is)
    (case l_read_number => k_is)
    (case c_read_number => k_is)
    (case k_read_number => k_is)
    (case a_read_day => k_is)
    (case l_read_day => k_is)
    (case c_read_day => k_is)
    (case k_read_day => k_is)
    (case a_Log_parse => k_is)
    (case pc_Log_parse => k_is)
    (case pf_Log_parse => k_is)
    (case cr1_Log_parse => k_is)
    (case cr2_Log_parse => k_is)
    (case l_Log_parse => k_is)
    (case c_Log_parse => k_is)
    (case k_Log_parse => k_is)
    (case a_Logx_strx => k_is)
    (case i_Logx_strx => k_is)
    (case l_Logx_strx => k_is)
    (case c_Logx_strx => k_is)
    (case k_Logx_strx => k_is)
    (case a__law_told => k_is)
    (case l__law_told => k_is)
    (case c__law_told => k_is)
    (case k__law_told => k_is)
    (case a__law_number => k_is)
    (case l__law_number => k_is)
    (case c__law_number => k_is)
    (case k__law_number => k_is)
    (case a__law_stock => k_is)
    (case l__law_stock => k_is)
    (case c__law_stock => k_is)
    (case k__law_stock => k_is)
    (case a__law_due => k_is)
    (case l__law_due => k_is)
    (case c__law_due => k_is)
    (case k__law_due => k_is)
    (case a_law => k_is)
    (case l_law => k_is)
    (case c_law => k_is)
    (case k_law => k_is)
    (case cg_Log => k_is)
    (case ch_Log => k_is)
    (case co_Log => k_is)
    (case cs_Log => k_is)
    (case na_Log_days => k_is)
    (case na_Log_stocks => k_is)
    (case na_Log_days_in => k_is)
    (case na_Log_days_out => k_is)
    (case cm_Log => k_is)
    (case ck_Log => k_is)
    (case aC_StoreError => k_is)
    (case xk_StoreError => k_is)
    (case xe_StoreError => k_is)
    (case xy_StoreError => k_is)
    (case xs_StoreError => k_is)
    (case xq_StoreError => k_exc)
    (case aC_InvalidText => k_is)
    (case xk_InvalidText => k_is)
    (case xe_InvalidText => k_is)
    (case xy_InvalidText => k_is)
    (case xs_InvalidText => k_is)
    (case xL_InvalidText => k_is)
    (case xsa_InvalidText => k_is)
    (case xga_InvalidText => k_is)
    (case xgg_InvalidText => k_is)
    (case xnb_InvalidText => k_is)
    (case xi_InvalidText => k_is)
    (case xt_InvalidText => k_is)
    (case xl_InvalidText => k_is)
    (case xc_InvalidText => k_is)
    (case xh_InvalidText => k_is)
    (case aC_NotLawful => k_is)
    (case xk_NotLawful => k_is)
    (case xe_NotLawful => k_is)
    (case xy_NotLawful => k_is)
    (case xs_NotLawful => k_is)
    (case xL_NotLawful => k_is)
    (case xsa_NotLawful => k_is)
    (case xga_NotLawful => k_is)
    (case xgg_NotLawful => k_is)
    (case xnb_NotLawful => k_is)
    (case xi_NotLawful => k_is)
    (case xt_NotLawful => k_is)
    (case xl_NotLawful => k_is)
    (case xc_NotLawful => k_is)
    (case xh_NotLawful => k_is)
    (case xp_StoreError_StoreError => first | rfl | k_is)
    (case xp_StoreError_InvalidText => first | rfl | k_is)
    (case xp_StoreError_NotLawful => first | rfl | k_is)
    (case xp_InvalidText_StoreError => first | rfl | k_is)
    (case xp_InvalidText_InvalidText => first | rfl | k_is)
    (case xp_InvalidText_NotLawful => first | rfl | k_is)
    (case xp_NotLawful_StoreError => first | rfl | k_is)
    (case xp_NotLawful_InvalidText => first | rfl | k_is)
    (case xp_NotLawful_NotLawful => first | rfl | k_is)
    (case xca_InvalidText => k_is)
    (case xcn_InvalidText => k_is)
    (case xcv_InvalidText => k_is)
    (case xcm_InvalidText => k_is)
    (case kx_InvalidText_InvalidText => first | rfl | k_is)
    (case kx_InvalidText_NotLawful => first | rfl | k_is)
    (case xca_NotLawful => k_is)
    (case xcn_NotLawful => k_is)
    (case xcv_NotLawful => k_is)
    (case xcm_NotLawful => k_is)
    (case kx_NotLawful_InvalidText => first | rfl | k_is)
    (case kx_NotLawful_NotLawful => first | rfl | k_is)
    (case oa_Log => k_is)
    (case on_Log => k_is)
    (case ot_Log => k_is)
    (case om_Log => k_is)
    (case oe_Log => k_is)
    (case ki_Log_NoneType => (refine PV.kit_no ?_ ?_ ?_ <;> k_is))
    (case ki_Log_bool => (refine PV.kit_no ?_ ?_ ?_ <;> k_is))
    (case ki_Log_int => (refine PV.kit_no ?_ ?_ ?_ <;> k_is))
    (case ki_Log_str => (refine PV.kit_no ?_ ?_ ?_ <;> k_is))
    (case ki_Log_tuple => (refine PV.kit_no ?_ ?_ ?_ <;> k_is))
    (case ki_Log_list => (refine PV.kit_no ?_ ?_ ?_ <;> k_is))
    (case ki_Log_dict => (refine PV.kit_no ?_ ?_ ?_ <;> k_is))
    (case z_abs => k_is)
    (case z_all => k_is)
    (case z_enumerate => k_is)
    (case z_int => k_is)
    (case z_isinstance => k_is)
    (case z_len => k_is)
    (case z_list => k_is)
    (case z_max => k_is)
    (case z_min => k_is)
    (case z_range => k_is)
    (case z_repr => k_is)
    (case z_str => k_is)
    (case z_sum => k_is)
    (case z_tuple => k_is)
    (case z_zip => k_is)
    (case gq_DIGITS => k_is)
    (case gq_MANY => k_is)
    (case gq_MAX_DAYS => k_is)
    (case gq_MAX_UNITS => k_is)

