import PyProof.Rows.All
import Wide.All
import OpenK.AllK
import Wide.FinOn
import HandS.ForMost
import HandS.ForExc
import HandS.Wide
import HandS.IsInst
import HandS.Deep
import KE.SortData
import HandS.TupAny
import HandS.WideMore
import KE.DataMinMax
import HandS.SortInts
import HandS.Flow
import KE.GoesEnum
import KE.KTupSum
import HandS.TryOnly
import HandS.ExcInit
import HandS.ExcField
import HandS.Style
import HandS.Comp
import HandS.ExcIs
import HandS.FStr
import HandS.NoneIn
import KE.KExcIs
import HandS.Conv
import HandS.More
import HandS.SortKw
import HandS.Property
import OpenK.KOps
import PySem.Challenge.RW_heapsdouble_k06_whole_led_desk
set_option Elab.async false
set_option linter.all false
set_option maxRecDepth 100000
namespace Pu
open PySem L2

/-! ### data -/
mutual
def flat : PyData → Bool
  | .list _ => false
  | .dict _ => false
  | .tuple xs => flats xs
  | .none => true
  | .bool _ => true
  | .int _ => true
  | .str _ => true
def flats : List PyData → Bool
  | [] => true
  | x :: r => flat x && flats r
end
theorem flats_iff : ∀ {xs : List PyData}, flats xs = true ↔ ∀ x ∈ xs, flat x = true
  | [] => by simp [flats]
  | x :: r => by simp [flats, flats_iff (xs := r)]
def keyD : Key → PyData
  | .inl i => .int i
  | .inr s => .str s

/-! ### heaps: an object less its lock -/
def isDct : HO → Bool
  | .dK _ => true
  | .dT _ => true
  | _ => false
def isTup : HO → Bool
  | .tup _ => true
  | .xd _ => true
  | _ => false
def core : HO → HO
  | .frz o w => if isDct w then w else .frz o w
  | u => u
def co (H : Hp) : Hp := fun a => (H a).map core
theorem co_none {H : Hp} {a : Addr} : co H a = none ↔ H a = none := by
  unfold co
  cases H a <;> simp
theorem core_lst {u : HO} {xs : List V} (h : core u = .lst xs) : u = .lst xs := by
  cases u <;> simp [core] at h ⊢
  · exact h
  · rename_i o w
    cases w <;> simp [isDct] at h
theorem core_tup {u : HO} {xs : List V} (h : core u = .tup xs) : u = .tup xs := by
  cases u <;> simp [core] at h ⊢
  · exact h
  · rename_i o w
    cases w <;> simp [isDct] at h
theorem core_dK {u : HO} {xs : List (Key × V)} (h : core u = .dK xs) : u = .dK xs ∨ ∃ o, u = .frz o (.dK xs) := by
  cases u <;> simp [core] at h ⊢
  · exact h
  · rename_i o w
    cases w <;> simp [isDct] at h ⊢
    exact h
theorem core_dT {u : HO} {xs : List (List Key × V)} (h : core u = .dT xs) : u = .dT xs ∨ ∃ o, u = .frz o (.dT xs) := by
  cases u <;> simp [core] at h ⊢
  · exact h
  · rename_i o w
    cases w <;> simp [isDct] at h ⊢
    exact h
theorem co_lst {H : Hp} {a : Addr} {xs : List V} (h : co H a = some (.lst xs)) : H a = some (.lst xs) := by
  unfold co at h
  cases e : H a with
  | none => rw [e] at h; cases h
  | some u => rw [e] at h; rw [core_lst (Option.some.inj h)]
theorem co_tup {H : Hp} {a : Addr} {xs : List V} (h : co H a = some (.tup xs)) : H a = some (.tup xs) := by
  unfold co at h
  cases e : H a with
  | none => rw [e] at h; cases h
  | some u => rw [e] at h; rw [core_tup (Option.some.inj h)]
theorem co_dK {H : Hp} {a : Addr} {xs : List (Key × V)} (h : co H a = some (.dK xs)) : Rd H a (.dK xs) := by
  unfold co at h
  cases e : H a with
  | none => rw [e] at h; cases h
  | some u =>
    rw [e] at h
    rcases core_dK (Option.some.inj h) with z | ⟨o, z⟩
    · exact .inl (by rw [e, z])
    · exact .inr ⟨o, by rw [e, z]⟩
theorem co_dT {H : Hp} {a : Addr} {xs : List (List Key × V)} (h : co H a = some (.dT xs)) : Rd H a (.dT xs) := by
  unfold co at h
  cases e : H a with
  | none => rw [e] at h; cases h
  | some u =>
    rw [e] at h
    rcases core_dT (Option.some.inj h) with z | ⟨o, z⟩
    · exact .inl (by rw [e, z])
    · exact .inr ⟨o, by rw [e, z]⟩
theorem co_upd {H : Hp} {a : Addr} {u : HO} : co (upd H a u) = upd (co H) a (core u) := by
  funext b
  unfold co upd
  by_cases e : b = a
  · rw [if_pos e, if_pos e]; rfl
  · rw [if_neg e, if_neg e]
theorem co_of {H : Hp} {a : Addr} {u : HO} (h : H a = some u) : co H a = some (core u) := by
  unfold co; rw [h]; rfl

/-! ### what a value stands for -/
mutual
inductive Rp (G : Hp) : V → PyData → Prop
  | non : Rp G .non .none
  | bl (b : Bool) : Rp G (.bl b) (.bool b)
  | int (i : Int) : Rp G (.int i) (.int i)
  | str (s : Str) : Rp G (.str s) (.str s)
  | lst {a : Addr} {vs : List V} {ds : List PyData} : G a = some (.lst vs) → RpAll G vs ds → Rp G (.ref a) (.list ds)
  | tup {a : Addr} {vs : List V} {ds : List PyData} : G a = some (.tup vs) → RpAll G vs ds → Rp G (.ref a) (.tuple ds)
  | dK {a : Addr} {kvs : List (Key × V)} {es : List (PyData × PyData)} : G a = some (.dK kvs) → RpK G kvs es → Rp G (.ref a) (.dict ((.none, .none) :: es))
  | dT {a : Addr} {kvs : List (List Key × V)} {es : List (PyData × PyData)} : G a = some (.dT kvs) → RpT G kvs es → Rp G (.ref a) (.dict es)
inductive RpAll (G : Hp) : List V → List PyData → Prop
  | nil : RpAll G [] []
  | cons {v : V} {d : PyData} {vs : List V} {ds : List PyData} : Rp G v d → RpAll G vs ds → RpAll G (v :: vs) (d :: ds)
inductive RpK (G : Hp) : List (Key × V) → List (PyData × PyData) → Prop
  | nil : RpK G [] []
  | cons {k : Key} {v : V} {d : PyData} {kvs : List (Key × V)} {es : List (PyData × PyData)} : Rp G v d → RpK G kvs es → RpK G ((k, v) :: kvs) ((keyD k, d) :: es)
inductive RpT (G : Hp) : List (List Key × V) → List (PyData × PyData) → Prop
  | nil : RpT G [] []
  | cons {k : List Key} {v : V} {d : PyData} {kvs : List (List Key × V)} {es : List (PyData × PyData)} : Rp G v d → RpT G kvs es → RpT G ((k, v) :: kvs) ((.tuple (k.map keyD), d) :: es)
end
/-- G' knows all that G knows -/
def Le (G G' : Hp) : Prop := ∀ a u, G a = some u → G' a = some u
theorem Le.refl (G : Hp) : Le G G := fun _ _ h => h
theorem Le.trans {G G' G2 : Hp} (a : Le G G') (b : Le G' G2) : Le G G2 := fun x u h => b x u (a x u h)
theorem Le.co {H H' : Hp} (h : Le H H') : Le (co H) (co H') := fun a u e => by
  unfold Pu.co at e ⊢
  cases q : H a with
  | none => rw [q] at e; cases e
  | some z => rw [h a z q]; rw [q] at e; exact e
mutual
theorem Rp.mono {G G' : Hp} (h : Le G G') : ∀ {v : V} {d : PyData}, Rp G v d → Rp G' v d
  | _, _, .non => .non
  | _, _, .bl b => .bl b
  | _, _, .int i => .int i
  | _, _, .str s => .str s
  | _, _, .lst e r => .lst (h _ _ e) (RpAll.mono h r)
  | _, _, .tup e r => .tup (h _ _ e) (RpAll.mono h r)
  | _, _, .dK e r => .dK (h _ _ e) (RpK.mono h r)
  | _, _, .dT e r => .dT (h _ _ e) (RpT.mono h r)
theorem RpAll.mono {G G' : Hp} (h : Le G G') : ∀ {vs : List V} {ds : List PyData}, RpAll G vs ds → RpAll G' vs ds
  | _, _, .nil => .nil
  | _, _, .cons a b => .cons (Rp.mono h a) (RpAll.mono h b)
theorem RpK.mono {G G' : Hp} (h : Le G G') : ∀ {vs : List (Key × V)} {ds : List (PyData × PyData)}, RpK G vs ds → RpK G' vs ds
  | _, _, .nil => .nil
  | _, _, .cons a b => .cons (Rp.mono h a) (RpK.mono h b)
theorem RpT.mono {G G' : Hp} (h : Le G G') : ∀ {vs : List (List Key × V)} {ds : List (PyData × PyData)}, RpT G vs ds → RpT G' vs ds
  | _, _, .nil => .nil
  | _, _, .cons a b => .cons (Rp.mono h a) (RpT.mono h b)
end
/-! flat data hangs on tuples alone -/
mutual
theorem Rp.flat {G G' : Hp} (h : ∀ a xs, G a = some (.tup xs) → G' a = some (.tup xs)) : ∀ {v : V} {d : PyData}, Rp G v d → flat d = true → Rp G' v d
  | _, _, .non, _ => .non
  | _, _, .bl b, _ => .bl b
  | _, _, .int i, _ => .int i
  | _, _, .str s, _ => .str s
  | _, _, .lst e r, f => by simp [Pu.flat] at f
  | _, _, .tup e r, f => .tup (h _ _ e) (RpAll.flat h r (by simpa [Pu.flat] using f))
  | _, _, .dK e r, f => by simp [Pu.flat] at f
  | _, _, .dT e r, f => by simp [Pu.flat] at f
theorem RpAll.flat {G G' : Hp} (h : ∀ a xs, G a = some (.tup xs) → G' a = some (.tup xs)) : ∀ {vs : List V} {ds : List PyData}, RpAll G vs ds → flats ds = true → RpAll G' vs ds
  | _, _, .nil, _ => .nil
  | _, _, .cons a b, f => by
    simp only [Pu.flats, Bool.and_eq_true] at f
    exact .cons (Rp.flat h a f.1) (RpAll.flat h b f.2)
end
theorem RpAll.length {G : Hp} : ∀ {vs : List V} {ds : List PyData}, RpAll G vs ds → vs.length = ds.length
  | _, _, .nil => rfl
  | _, _, .cons _ b => by rw [List.length_cons, List.length_cons, b.length]
theorem RpAll.get {G : Hp} : ∀ {vs : List V} {ds : List PyData} {i : Nat} {d : PyData}, RpAll G vs ds → ds[i]? = some d → ∃ v, vs[i]? = some v ∧ Rp G v d
  | _, _, _, _, .nil, h => by simp at h
  | _, _, 0, _, .cons a _, h => by
    have e := Option.some.inj h
    subst e
    exact ⟨_, rfl, a⟩
  | _, _, i + 1, _, .cons _ b, h => b.get (i := i) h
theorem RpAll.getV {G : Hp} : ∀ {vs : List V} {ds : List PyData} {i : Nat} {v : V}, RpAll G vs ds → vs[i]? = some v → ∃ d, ds[i]? = some d ∧ Rp G v d
  | _, _, _, _, .nil, h => by simp at h
  | _, _, 0, _, .cons a _, h => by
    have e := Option.some.inj h
    subst e
    exact ⟨_, rfl, a⟩
  | _, _, i + 1, _, .cons _ b, h => b.getV (i := i) h
theorem RpAll.append {G : Hp} : ∀ {vs ws : List V} {ds es : List PyData}, RpAll G vs ds → RpAll G ws es → RpAll G (vs ++ ws) (ds ++ es)
  | _, _, _, _, .nil, h => h
  | _, _, _, _, .cons a b, h => .cons a (b.append h)
theorem RpAll.set {G : Hp} {v : V} {d : PyData} (r : Rp G v d) : ∀ {vs : List V} {ds : List PyData} (i : Nat), RpAll G vs ds → RpAll G (vs.set i v) (ds.set i d)
  | _, _, _, .nil => .nil
  | _, _, 0, .cons _ b => .cons r b
  | _, _, i + 1, .cons a b => .cons a (RpAll.set r i b)
theorem RpAll.take {G : Hp} : ∀ {vs : List V} {ds : List PyData} (n : Nat), RpAll G vs ds → RpAll G (vs.take n) (ds.take n)
  | _, _, 0, _ => by simpa using RpAll.nil
  | _, _, n + 1, .nil => .nil
  | _, _, n + 1, .cons a b => .cons a (b.take n)
theorem RpAll.drop {G : Hp} : ∀ {vs : List V} {ds : List PyData} (n : Nat), RpAll G vs ds → RpAll G (vs.drop n) (ds.drop n)
  | _, _, 0, h => h
  | _, _, n + 1, .nil => .nil
  | _, _, n + 1, .cons a b => b.drop n
theorem RpAll.dropLast {G : Hp} {vs : List V} {ds : List PyData} (h : RpAll G vs ds) : RpAll G vs.dropLast ds.dropLast := by
  rw [List.dropLast_eq_take, List.dropLast_eq_take, h.length]
  exact h.take _
theorem RpAll.ints {G : Hp} : ∀ {vs : List V} {ns : List Int}, RpAll G vs (ns.map PyData.int) → vs = ns.map V.int
  | _, [], h => by cases h; rfl
  | _, n :: r, h => by
    cases h with
    | cons a b => cases a; rw [b.ints]; rfl
theorem RpAll.of_ints {G : Hp} : ∀ (ns : List Int), RpAll G (ns.map V.int) (ns.map PyData.int)
  | [] => .nil
  | n :: r => .cons (.int n) (RpAll.of_ints r)

/-! ### the slots of a frame -/
inductive Slot where
  /-- nothing is known of it -/
  | un
  /-- data that nobody changes -/
  | im (d : PyData)
  /-- a list of this frame's own, that it may change; a dict likewise -/
  | ol (xs : List PyData) | od (kvs : List (PyData × PyData))
  /-- the source of draws: its list, the list of its cells -/
  | rng (a c : Addr)
  /-- a caught exception: its object, its fields -/
  | ex (a : Addr) (dd : Option Addr) (fs : List (Str × V))
  /-- an object of an own class, its fields -/
  | ob (a dx cls : Addr) (fs : List (Str × PyData))
def isMut : Slot → Bool
  | .rng _ _ => true
  | .ob _ _ _ _ => true
  | _ => false
abbrev Slots := List Slot
abbrev Ow := Addr → Option (Nat × Bool)
def mutO : Option (Nat × Bool) → Bool
  | some (_, b) => b
  | none => false
/-- what stands still: all but the hidden (D0) and the frame's own -/
def vw (D0 : Addr → Bool) (o : Ow) (C : Hp) : Hp := fun a => if (D0 a || (o a).isSome) = true then none else C a
/-- what may be read: all but the hidden and the sources of draws -/
def vt (D0 : Addr → Bool) (o : Ow) (C : Hp) : Hp := fun a => if (D0 a || mutO (o a)) = true then none else C a
theorem vw_le_vt {D0 : Addr → Bool} {o : Ow} {C : Hp} : Le (vw D0 o C) (vt D0 o C) := fun a u h => by
  unfold vw at h
  unfold vt
  split at h
  · cases h
  · rename_i hn
    rw [if_neg]
    · exact h
    · intro z
      apply hn
      rw [Bool.or_eq_true] at z ⊢
      rcases z with z | z
      · exact .inl z
      · refine .inr ?_
        cases e : o a with
        | none => rw [e] at z; cases z
        | some _ => rfl
theorem vt_le {D0 : Addr → Bool} {o : Ow} {C : Hp} : Le (vt D0 o C) C := fun a u h => by
  unfold vt at h
  split at h
  · cases h
  · exact h
theorem vw_le {D0 : Addr → Bool} {o : Ow} {C : Hp} : Le (vw D0 o C) C := vw_le_vt.trans vt_le
theorem vw_at {D0 : Addr → Bool} {o : Ow} {C : Hp} {a : Addr} {u : HO} (h1 : D0 a = false) (h2 : o a = none) (h : C a = some u) : vw D0 o C a = some u := by
  unfold vw
  rw [h1, h2]
  exact h

/-- the fields of an object -/
inductive RpF (G : Hp) : List (Str × V) → List (Str × PyData) → Prop
  | nil : RpF G [] []
  | cons {x : Str} {v : V} {d : PyData} {fs : List (Str × V)} {es : List (Str × PyData)} : Rp G v d → RpF G fs es → RpF G ((x, v) :: fs) ((x, d) :: es)
theorem RpF.mono {G G' : Hp} (h : Le G G') : ∀ {fs : List (Str × V)} {es : List (Str × PyData)}, RpF G fs es → RpF G' fs es
  | _, _, .nil => .nil
  | _, _, .cons a b => .cons (Rp.mono h a) (RpF.mono h b)
/-- a dict's entries; the mark at the head: its keys are ints and texts -/
def DOk (G : Hp) (u : HO) (es : List (PyData × PyData)) : Prop := (∃ kvs es', es = (.none, .none) :: es' ∧ u = .dK kvs ∧ RpK G kvs es') ∨ ∃ kvs, u = .dT kvs ∧ RpT G kvs es
theorem DOk.mono {G G' : Hp} (h : Le G G') {u : HO} {es : List (PyData × PyData)} (d : DOk G u es) : DOk G' u es :=
  d.elim (fun ⟨kvs, es', e, e2, r⟩ => .inl ⟨kvs, es', e, e2, r.mono h⟩) fun ⟨kvs, e, r⟩ => .inr ⟨kvs, e, r.mono h⟩
theorem DOk.rp {G : Hp} {u : HO} {es : List (PyData × PyData)} {a : Addr} (d : DOk G u es) (h : G a = some u) : Rp G (.ref a) (.dict es) := by
  rcases d with ⟨kvs, es', rfl, rfl, r⟩ | ⟨kvs, rfl, r⟩
  · exact .dK h r
  · exact .dT h r
theorem Rp.dok {G : Hp} {v : V} {es : List (PyData × PyData)} (h : Rp G v (.dict es)) : ∃ a u, v = .ref a ∧ G a = some u ∧ DOk G u es := by
  cases h with
  | dK e r => exact ⟨_, _, rfl, e, .inl ⟨_, _, rfl, rfl, r⟩⟩
  | dT e r => exact ⟨_, _, rfl, e, .inr ⟨_, rfl, r⟩⟩
def SlotOk (D0 : Addr → Bool) (C : Hp) (o : Ow) (i : Nat) (x : Option (Option V)) : Slot → Prop
  | .un => True
  | .im d => ∃ v, x = some (some v) ∧ Rp (vw D0 o C) v d
  | .ol xs => ∃ a vs, x = some (some (.ref a)) ∧ o a = some (i, false) ∧ C a = some (.lst vs) ∧ RpAll (vw D0 o C) vs xs
  | .od es => ∃ a u, x = some (some (.ref a)) ∧ o a = some (i, false) ∧ C a = some u ∧ DOk (vw D0 o C) u es
  | .rng a c => ∃ (st ix : Int) (ns : List Int), x = some (some (.ref a)) ∧ o a = some (i, true) ∧ o c = some (i, true) ∧ a ≠ c ∧ C a = some (.lst [.int st, .ref c, .int ix]) ∧ C c = some (.lst (ns.map V.int)) ∧ ns.length ≤ 63
  | .ex a dd fs => x = some (some (.ref a)) ∧ ∀ q, dd = some q → vw D0 o C q = some (.xd fs)
  | .ob a dx cls fs => ∃ vs, x = some (some (.ref a)) ∧ o a = some (i, true) ∧ o dx = some (i, true) ∧ a ≠ dx ∧ C a = some (.ins cls dx vs) ∧ C dx = some (.own a) ∧ RpF (vw D0 o C) vs fs

/-- a slot's fact where what it stands on stands -/
theorem SlotOk.move {D0 D0' : Addr → Bool} {C C' : Hp} {o o' : Ow} {i : Nat} {x : Option (Option V)} {s : Slot} (h : SlotOk D0 C o i x s) (hv : Le (vw D0 o C) (vw D0' o' C'))
    (ho : ∀ a b u, o a = some (i, b) → C a = some u → o' a = some (i, b) ∧ C' a = some u) : SlotOk D0' C' o' i x s := by
  cases s with
  | un => trivial
  | im d => obtain ⟨v, h1, h2⟩ := h; exact ⟨v, h1, h2.mono hv⟩
  | ol xs => obtain ⟨a, vs, h1, h2, h3, h4⟩ := h; exact ⟨a, vs, h1, (ho _ _ _ h2 h3).1, (ho _ _ _ h2 h3).2, h4.mono hv⟩
  | od es =>
    obtain ⟨a, u, h1, h2, h3, h4⟩ := h
    exact ⟨a, u, h1, (ho _ _ _ h2 h3).1, (ho _ _ _ h2 h3).2, h4.mono hv⟩
  | rng a c => obtain ⟨st, ix, ns, h1, h2, h3, h4, h5, h6, h7⟩ := h; exact ⟨st, ix, ns, h1, (ho _ _ _ h2 h5).1, (ho _ _ _ h3 h6).1, h4, (ho _ _ _ h2 h5).2, (ho _ _ _ h3 h6).2, h7⟩
  | ex a dd fs => exact ⟨h.1, fun q hq => hv _ _ (h.2 q hq)⟩
  | ob a dx cls fs => obtain ⟨vs, h1, h2, h3, h4, h5, h6, h7⟩ := h; exact ⟨vs, h1, (ho _ _ _ h2 h5).1, (ho _ _ _ h3 h6).1, h4, (ho _ _ _ h2 h5).2, (ho _ _ _ h3 h6).2, h7.mono hv⟩

def isFrz : HO → Bool
  | .frz _ _ => true
  | _ => false
structure Env (D0 : Addr → Bool) (S : Slots) (σ : St) (H : Hp) (o : Ow) : Prop where
  len : σ.length = S.length
  live : ∀ a p, o a = some p → D0 a = false ∧ ∃ u, co H a = some u ∧ isTup u = false
  dead : ∀ a, D0 a = true → ∃ u, co H a = some u ∧ isTup u = false
  sl : ∀ (i : Nat) (s : Slot), S[i]? = some s → SlotOk D0 (co H) o i (σ[i]?) s
  /-- what is the frame's own is not locked -/
  nf : ∀ a p u, o a = some p → H a = some u → isFrz u = false

/-- behind an expression: all but the sources of draws stands as it stood -/
def XE (o : Ow) (H H' : Hp) : Prop := ∀ a u, mutO (o a) = false → H a = some u → H' a = some u
theorem XE.refl (o : Ow) (H : Hp) : XE o H H := fun _ _ _ h => h
theorem XE.trans {o : Ow} {H H1 H2 : Hp} (a : XE o H H1) (b : XE o H1 H2) : XE o H H2 := fun x u m h => b x u m (a x u m h)
theorem XE.of {o : Ow} {H H' : Hp} (h : Le H H') : XE o H H' := fun a u _ e => h a u e
theorem XE.vt {D0 : Addr → Bool} {o : Ow} {H H' : Hp} (h : XE o H H') : Le (vt D0 o (co H)) (vt D0 o (co H')) := fun a u e => by
  unfold Pu.vt at e ⊢
  split at e
  · cases e
  · rename_i hn
    rw [if_neg hn]
    have hm : mutO (o a) = false := by
      cases q : mutO (o a) with
      | false => rfl
      | true => exact absurd (by rw [q, Bool.or_true]) hn
    unfold co at e ⊢
    cases q : H a with
    | none => rw [q] at e; cases e
    | some z => rw [h a z hm q]; rw [q] at e; exact e
theorem XE.vw {D0 : Addr → Bool} {o : Ow} {H H' : Hp} (h : XE o H H') : Le (vw D0 o (co H)) (vw D0 o (co H')) := fun a u e => by
  unfold Pu.vw at e ⊢
  split at e
  · cases e
  · rename_i hn
    rw [if_neg hn]
    have hm : mutO (o a) = false := by
      cases q : o a with
      | none => rfl
      | some p => exact absurd (by rw [q]; simp) hn
    unfold co at e ⊢
    cases q : H a with
    | none => rw [q] at e; cases e
    | some z => rw [h a z hm q]; rw [q] at e; exact e
/-- behind a statement: what was nobody's stands as it stood -/
def Fr (o : Ow) (H : Hp) (o' : Ow) (H' : Hp) : Prop := ∀ a u, o a = none → H a = some u → H' a = some u ∧ o' a = none
theorem Fr.refl (o : Ow) (H : Hp) : Fr o H o H := fun _ _ n h => ⟨h, n⟩
theorem Fr.trans {o o1 o2 : Ow} {H H1 H2 : Hp} (a : Fr o H o1 H1) (b : Fr o1 H1 o2 H2) : Fr o H o2 H2 := fun x u n h => let ⟨h1, n1⟩ := a x u n h; b x u n1 h1
theorem XE.fr {o : Ow} {H H' : Hp} (h : XE o H H') : Fr o H o H' := fun a u n e => ⟨h a u (by rw [n]; rfl) e, n⟩
/-- a value stands for d; c: it may be kept (nobody changes what it hangs on) -/
def Val (D0 : Addr → Bool) (o : Ow) (H : Hp) (v : V) (d : PyData) (c : Prop) : Prop := Rp (vt D0 o (co H)) v d ∧ (c → Rp (vw D0 o (co H)) v d)
theorem Val.mono {D0 : Addr → Bool} {o : Ow} {H H' : Hp} {v : V} {d : PyData} {c : Prop} (h : Val D0 o H v d c) (x : XE o H H') : Val D0 o H' v d c := ⟨h.1.mono x.vt, fun hc => (h.2 hc).mono x.vw⟩
theorem Val.of {D0 : Addr → Bool} {o : Ow} {H : Hp} {v : V} {d : PyData} (h : Rp (vw D0 o (co H)) v d) : Val D0 o H v d True := ⟨h.mono vw_le_vt, fun _ => h⟩
theorem Val.imp {D0 : Addr → Bool} {o : Ow} {H : Hp} {v : V} {d : PyData} {c c' : Prop} (h : Val D0 o H v d c) (k : c' → c) : Val D0 o H v d c' := ⟨h.1, fun hc => h.2 (k hc)⟩
/-- flat data may be kept -/
theorem Env.vtw {D0 : Addr → Bool} {S : Slots} {σ : St} {H : Hp} {o : Ow} (E : Env D0 S σ H o) : ∀ a xs, vt D0 o (co H) a = some (.tup xs) → vw D0 o (co H) a = some (.tup xs) := fun a xs e => by
  have e2 := vt_le a _ e
  refine vw_at ?_ ?_ e2
  · cases q : D0 a with
    | false => rfl
    | true =>
      obtain ⟨u, h1, h2⟩ := E.dead a q
      rw [e2] at h1
      cases h1
      cases h2
  · cases q : o a with
    | none => rfl
    | some p =>
      obtain ⟨_, u, h1, h2⟩ := E.live a p q
      rw [e2] at h1
      cases h1
      cases h2
theorem Val.flat {D0 : Addr → Bool} {S : Slots} {σ : St} {H : Hp} {o : Ow} {v : V} {d : PyData} {c : Prop} (E : Env D0 S σ H o) (h : Val D0 o H v d c) : Val D0 o H v d (c ∨ flat d = true) :=
  ⟨h.1, fun z => z.elim h.2 fun f => h.1.flat E.vtw f⟩

/-- what is the frame's own -/
theorem Env.at_ {D0 : Addr → Bool} {S : Slots} {σ : St} {H : Hp} {o : Ow} (E : Env D0 S σ H o) {a : Addr} {p : Nat × Bool} (e : o a = some p) : ∃ u, H a = some u ∧ isFrz u = false := by
  obtain ⟨_, w, h2, _⟩ := E.live a p e
  cases q : H a with
  | none => rw [co_none.mpr q] at h2; cases h2
  | some u => exact ⟨u, rfl, E.nf a p u e q⟩
/-- the environment behind an expression that changed no source of draws -/
theorem Env.xe {D0 : Addr → Bool} {S : Slots} {σ : St} {H H' : Hp} {o : Ow} (E : Env D0 S σ H o) (h : Le H H') : Env D0 S σ H' o := by
  have hc : Le (co H) (co H') := h.co
  have hw : Le (vw D0 o (co H)) (vw D0 o (co H')) := (XE.of h).vw
  refine ⟨E.len, fun a p e => ?_, fun a e => ?_, fun i s e => ?_, fun a p u e h1 => ?_⟩
  · obtain ⟨h1, u, h2, h3⟩ := E.live a p e
    exact ⟨h1, u, hc a u h2, h3⟩
  · obtain ⟨u, h2, h3⟩ := E.dead a e
    exact ⟨u, hc a u h2, h3⟩
  · exact (E.sl i s e).move hw fun a b u _ h => ⟨‹_›, hc a u h⟩
  · obtain ⟨u', h2, h3⟩ := E.at_ e
    rw [h a u' h2] at h1
    cases h1
    exact h3
theorem Le.new {H : Hp} {p : Addr} {u : HO} (h : H p = none) : Le H (upd H p u) := fun a x e => by
  rw [upd_ne (ne_of_none e h)]
  exact e
/-- a new object's address is nobody's -/
theorem Env.new {D0 : Addr → Bool} {S : Slots} {σ : St} {H : Hp} {o : Ow} {p : Addr} (E : Env D0 S σ H o) (h : H p = none) : D0 p = false ∧ o p = none := by
  have h' : co H p = none := co_none.mpr h
  constructor
  · cases q : D0 p with
    | false => rfl
    | true => obtain ⟨u, h1, _⟩ := E.dead p q; rw [h'] at h1; cases h1
  · cases q : o p with
    | none => rfl
    | some r => obtain ⟨_, u, h1, _⟩ := E.live p r q; rw [h'] at h1; cases h1
end Pu

namespace Pu
open PySem L2

/-! ### the judgements -/
/-- an exception: its class, what it carries -/
abbrev XC := Str × List (Str × V)
def XOk (mg : Str → Option Value) (H : Hp) (x : XC) (cls : Value) (d : Option Addr) : Prop := (∃ C, mg x.1 = some (.ref C) ∧ cls = .ref C) ∧ ((x.2 = [] ∧ d = none) ∨ ∃ dd, d = some dd ∧ H dd = some (.xd x.2))
/-- the module's names, what is wanted of an exception -/
structure WM where
  mg : Str → Option Value
  w : WX
abbrev EK := XC → Slots → Prop
abbrev WEx := Slots → (PyData → Prop → Slots → Prop) → EK → Prop
abbrev WLs := Slots → (List PyData → Prop → Slots → Prop) → EK → Prop
abbrev WTx := Slots → (Bool → Slots → Prop) → EK → Prop
/-- the way out by an exception -/
def Xw (W : WM) (D0 : Addr → Bool) (σ : St) (o : Ow) (H : Hp) (B : EK) : Prop :=
  ∀ x S' cls dd H', B x S' → Env D0 S' σ H' o → XE o H H' → XOk W.mg H' x cls dd → W.w cls dd σ H'
theorem Xw.on {W : WM} {D0 : Addr → Bool} {σ : St} {o : Ow} {H H1 : Hp} {B : EK} (h : Xw W D0 σ o H B) (x : XE o H H1) : Xw W D0 σ o H1 B :=
  fun a b c d e f g i j => h a b c d e f g (x.trans i) j
def Vals' (D0 : Addr → Bool) (o : Ow) (H : Hp) (vs : List V) (ds : List PyData) (c : Prop) : Prop := RpAll (vt D0 o (co H)) vs ds ∧ (c → RpAll (vw D0 o (co H)) vs ds)
def Snd (W : WM) (t : TE) (w : WEx) : Prop := ∀ (D0 : Addr → Bool) (S : Slots) (σ : St) (H : Hp) (o : Ow) (A : PyData → Prop → Slots → Prop) (B : EK) (Q : VK), Env D0 S σ H o → w S A B →
  (∀ d c S' v H', A d c S' → Env D0 S' σ H' o → XE o H H' → Val D0 o H' v d c → Q v H') → Xw W D0 σ o H B → t σ H Q
def SndA (W : WM) (t : TA) (n : Nat) (w : WLs) : Prop := ∀ (D0 : Addr → Bool) (S : Slots) (σ : St) (H : Hp) (o : Ow) (A : List PyData → Prop → Slots → Prop) (B : EK) (Q : List V → Hp → Prop), Env D0 S σ H o → w S A B →
  (∀ ds c S' vs H', ds.length = n → A ds c S' → Env D0 S' σ H' o → XE o H H' → Vals' D0 o H' vs ds c → Q vs H') → Xw W D0 σ o H B → t σ H Q
def SndT (W : WM) (t : TT) (w : WTx) : Prop := ∀ (D0 : Addr → Bool) (S : Slots) (σ : St) (H : Hp) (o : Ow) (A : Bool → Slots → Prop) (B : EK) (Q : Bool → Hp → Prop), Env D0 S σ H o → w S A B →
  (∀ b S' H', A b S' → Env D0 S' σ H' o → XE o H H' → Q b H') → Xw W D0 σ o H B → t σ H Q
/-- a new list, that nothing else hangs on -/
def SndO (W : WM) (t : TE) (w : WLs) : Prop := ∀ (D0 : Addr → Bool) (S : Slots) (σ : St) (H : Hp) (o : Ow) (A : List PyData → Prop → Slots → Prop) (B : EK) (Q : VK), Env D0 S σ H o → w S A B →
  (∀ ds c S' vs p H1, A ds c S' → Env D0 S' σ H1 o → XE o H H1 → H1 p = none → Vals' D0 o H1 vs ds c → Q (.ref p) (upd H1 p (.lst vs))) → Xw W D0 σ o H B → t σ H Q
structure SE (X : Cx) (W : WM) (e : Expr) (w : WEx) : Prop where
  ex : ∃ t, PE X e t ∧ Snd W t w
structure SO (X : Cx) (W : WM) (e : Expr) (w : WLs) : Prop where
  ex : ∃ t, PE X e t ∧ SndO W t w
structure ST (X : Cx) (W : WM) (e : Expr) (w : WTx) : Prop where
  ex : ∃ t, PT X e t ∧ SndT W t w
structure SA (X : Cx) (W : WM) (es : List Expr) (w : WLs) : Prop where
  ex : ∃ t, PA X es t ∧ SndA W t es.length w
/-- where one stands -/
structure At (X : Cx) (W : WM) (k : Nat) : Prop where
  room : Room k X.A
  calm : X.calm = true
  tx : Takes X W.w
  mq : W.mg = X.mg
  nd : X.N.Nodup
  po : PassesOwn (model X.prog X.w) X.A X.env X.xe
theorem At.tk {X : Cx} {W : WM} {k : Nat} (a : At X W k) : ∀ σ, PassesAt (L2.CX X.prog X.w) X σ (WE W.w σ) := fun σ => passAt a.tx σ
theorem At.u64 {X : Cx} {W : WM} {k : Nat} (a : At X W k) : X.A.units + 64 < cLine := a.room.units
theorem At.u65 {X : Cx} {W : WM} {k : Nat} (a : At X W k) : X.A.units + 65 < cLine := by have := a.room.un; omega
theorem At.u1 {X : Cx} {W : WM} {k : Nat} (a : At X W k) : X.A.units + 1 < cLine := by have := a.room.un; omega

section
variable {X : Cx} {W : WM} {k : Nat} {pos : Pos}

/-! ### names and constants -/
def wV (i : Nat) : WEx := fun S A _ => match S[i]? with
  | some (.im d) => A d True S
  | some (.ol xs) => A (.list xs) False S
  | some (.od es) => A (.dict es) False S
  | _ => False
def wC (d : PyData) : WEx := fun S A _ => A d True S
theorem snd_var {i : Nat} : Snd W (tVar i) (wV i) := by
  intro D0 S σ H o A B Q E hw k kx
  unfold wV at hw
  split at hw
  · rename_i d hs
    obtain ⟨v, h1, h2⟩ := E.sl i _ hs
    exact ⟨v, h1, k _ _ _ v H hw E (XE.refl o H) (Val.of h2)⟩
  · rename_i xs hs
    obtain ⟨a, vs, h1, h2, h3, h4⟩ := E.sl i _ hs
    refine ⟨.ref a, h1, k _ _ _ _ H hw E (XE.refl o H) ⟨.lst ?_ (h4.mono vw_le_vt), fun z => z.elim⟩⟩
    unfold vt
    rw [(E.live a _ h2).1, h2]
    exact h3
  · rename_i es hs
    obtain ⟨a, u, h1, h2, h3, h4⟩ := E.sl i _ hs
    refine ⟨.ref a, h1, k _ _ _ _ H hw E (XE.refl o H) ⟨?_, fun z => z.elim⟩⟩
    have hv : ∀ u, co H a = some u → vt D0 o (co H) a = some u := fun u e => by
      unfold vt
      rw [(E.live a _ h2).1, h2]
      exact e
    exact (h4.mono vw_le_vt).rp (hv _ h3)
  · exact hw.elim
theorem snd_c {v : V} {d : PyData} (h : ∀ G, Rp G v d) : Snd W (tC v) (wC d) := fun D0 S σ H o A B Q E hw k kx => k _ _ _ v H hw E (XE.refl o H) (Val.of (h _))
theorem se_v (i : Nat) {x : Str} {p : Pos} (hN : X.N[i]? = some x := by rfl) (hv : Vis X.env.scope x := by first | exact Or.inl rfl | exact Or.inr (Or.inl rfl) | exact Or.inr (Or.inr rfl)) (hd : (x == ("__debug__" : Str)) = false := by decide)
    (hcd : (x == ("__classdict__" : Str)) = false := by decide) : SE X W (.Name x p) (wV i) := ⟨_, pe_var hN hv hd hcd, snd_var⟩
theorem se_int {i : Int} {j p} : SE X W (.Constant (.int i) j p) (wC (.int i)) := ⟨_, pe_int, snd_c fun _ => .int i⟩
theorem se_bl {b : Bool} {j p} : SE X W (.Constant (.bool b) j p) (wC (.bool b)) := ⟨_, pe_bl, snd_c fun _ => .bl b⟩
theorem se_non {j p} : SE X W (.Constant .none j p) (wC .none) := ⟨_, pe_non, snd_c fun _ => .non⟩
theorem se_str {x : Str} {j p} : SE X W (.Constant (.str x) j p) (wC (.str x)) := ⟨_, pe_str, snd_c fun _ => .str x⟩
/-- a module's number -/
theorem se_gi {x : Str} {i : Int} {t : Tok} {p : Pos} (hm : X.mg x = some (.int i t)) (hg : Gl X x := by rfl) (hd : (x == ("__debug__" : Str)) = false := by decide) : SE X W (.Name x p) (wC (.int i)) := ⟨_, pe_glob hg hm (v := .int i) ⟨t, rfl⟩ hd, snd_c fun _ => .int i⟩

/-! ### operators -/
/-- what an operator makes of two data -/
abbrev R2D := PyData → Prop → PyData → Prop → (PyData → Prop → Prop) → Prop
structure Op2 (X : Cx) (f : Value → Value → Sem Value) (g : R2D) : Prop where
  ex : ∃ r : R2, OpR X f r ∧ ∀ (D0 : Addr → Bool) (S : Slots) (σ : St) (o : Ow) (H : Hp) (x y : V) (dx dy : PyData) (cx cy : Prop) (K : PyData → Prop → Prop) (Q : VK), Env D0 S σ H o → Val D0 o H x dx cx → Val D0 o H y dy cy → g dx cx dy cy K →
    (∀ z dz cz H', K dz cz → Le H H' → Val D0 o H' z dz cz → Q z H') → r x y H Q
def wOp (g : R2D) (wa wb : WEx) : WEx := fun S A B => wa S (fun x cx S1 => wb S1 (fun y cy S2 => g x cx y cy fun z cz => A z cz S2) B) B
theorem snd_op {g : R2D} {ta tb : TE} {wa wb : WEx} {r : R2} (ha : Snd W ta wa) (hb : Snd W tb wb) (hr : ∀ (D0 : Addr → Bool) (S : Slots) (σ : St) (o : Ow) (H : Hp) (x y : V) (dx dy : PyData) (cx cy : Prop) (K : PyData → Prop → Prop) (Q : VK), Env D0 S σ H o → Val D0 o H x dx cx → Val D0 o H y dy cy → g dx cx dy cy K →
    (∀ z dz cz H', K dz cz → Le H H' → Val D0 o H' z dz cz → Q z H') → r x y H Q) : Snd W (tOp r ta tb) (wOp g wa wb) := by
  intro D0 S σ H o A B Q E hw k kx
  refine ha D0 S σ H o _ B _ E hw (fun d c S1 v H1 h1 E1 x1 V1 => ?_) kx
  refine hb D0 S1 σ H1 o _ B _ E1 h1 (fun d2 c2 S2 v2 H2 h2 E2 x2 V2 => ?_) (kx.on x1)
  exact hr D0 S2 σ o H2 v v2 d d2 c c2 _ Q E2 (V1.mono x2) V2 h2 fun z dz cz H' hz le V => k dz cz S2 z H' hz (E2.xe le) ((x1.trans x2).trans (XE.of le)) V
theorem se_op {op : Operator} {g : R2D} {a b : Expr} {wa wb : WEx} (ho : Op2 X (binaryOp op) g) (ha : SE X W a wa) (hb : SE X W b wb) : SE X W (.BinOp a op b pos) (wOp g wa wb) := by
  obtain ⟨ta, pa, sa⟩ := ha.ex
  obtain ⟨tb, pb, sb⟩ := hb.ex
  obtain ⟨r, hr, h⟩ := ho.ex
  exact ⟨_, pe_op hr pa pb, snd_op sa sb h⟩
theorem se_cmp {op : CmpOp} {g : R2D} {a b : Expr} {wa wb : WEx} (ho : Op2 X (compareOp op) g) (ha : SE X W a wa) (hb : SE X W b wb) (hm : behindInMarks op b = false := by first | exact nobehind _ (by decide) (by decide) | rfl) : SE X W (.Compare a [op] [b] pos) (wOp g wa wb) := by
  obtain ⟨ta, pa, sa⟩ := ha.ex
  obtain ⟨tb, pb, sb⟩ := hb.ex
  obtain ⟨r, hr, h⟩ := ho.ex
  exact ⟨_, pe_cmpR hr pa pb hm, snd_op sa sb h⟩
def bl? : PyData → (Bool → Prop) → Prop
  | .bool b, K => K b
  | _, _ => False
theorem bl_rp {G : Hp} {v : V} {d : PyData} {K : Bool → Prop} (r : Rp G v d) (h : bl? d K) : ∃ b, v = .bl b ∧ K b := by
  cases r with
  | bl b => exact ⟨b, rfl, h⟩
  | _ => exact h.elim
/-- a op1 b op2 c -/
def wChain (g g' : R2D) (wa wb wc : WEx) : WEx := fun S A B => wa S (fun x cx S1 => wb S1 (fun y cy S2 => g x cx y cy fun z _ => bl? z fun b => if b = true then wc S2 (fun u cu S3 => g' y cy u cu fun z' cz' => A z' cz' S3) B else A (.bool false) True S2) B) B
theorem se_chain {op op' : CmpOp} {g g' : R2D} {a b c : Expr} {wa wb wc : WEx} (ho : Op2 X (compareOp op) g) (ho' : Op2 X (compareOp op') g') (ha : SE X W a wa) (hb : SE X W b wb) (hc : SE X W c wc)
    (hm : lastMarks [op, op'] [b, c] = false := by with_unfolding_all rfl) : SE X W (.Compare a [op, op'] [b, c] pos) (wChain g g' wa wb wc) := by
  obtain ⟨ta, pa, sa⟩ := ha.ex
  obtain ⟨tb, pb, sb⟩ := hb.ex
  obtain ⟨tc, pc, sc⟩ := hc.ex
  obtain ⟨r, hr, h⟩ := ho.ex
  obtain ⟨r', hr', h'⟩ := ho'.ex
  refine ⟨_, pe_chain hr hr' pa pb pc hm, ?_⟩
  intro D0 S σ H o A B Q E hw k kx
  refine sa D0 S σ H o _ B _ E hw (fun d c S1 v H1 h1 E1 x1 V1 => ?_) kx
  refine sb D0 S1 σ H1 o _ B _ E1 h1 (fun d2 c2 S2 v2 H2 h2 E2 x2 V2 => ?_) (kx.on x1)
  refine h D0 S2 σ o H2 v v2 d d2 c c2 _ _ E2 (V1.mono x2) V2 h2 fun z dz cz H3 hz le V => ?_
  have x3 := (x1.trans x2).trans (XE.of le)
  have E3 := E2.xe le
  have V2' := V2.mono (XE.of le)
  obtain ⟨b, rfl, hz⟩ := bl_rp V.1 hz
  refine ⟨b, rfl, ?_⟩
  cases b with
  | true =>
    rw [if_pos rfl] at hz ⊢
    refine sc D0 S2 σ H3 o _ B _ E3 hz (fun d4 c4 S4 v4 H4 h4 E4 x4 V4 => ?_) (kx.on x3)
    exact h' D0 S4 σ o H4 v2 v4 d2 d4 c2 c4 _ Q E4 (V2'.mono x4) V4 h4 fun z' dz' cz' H' hz' le' V' => k dz' cz' S4 z' H' hz' (E4.xe le') ((x3.trans x4).trans (XE.of le')) V'
  | false =>
    rw [if_neg Bool.false_ne_true] at hz ⊢
    exact k _ _ _ _ H3 hz E3 x3 (Val.of (.bl false))

/-- on two ints -/
def gI (C : Int → Int → Prop) (f : Int → Int → PyData) : R2D := fun x _ y _ K => match x, y with
  | .int i, .int j => C i j ∧ K (f i j) True
  | _, _ => False
theorem op2_I {f : Value → Value → Sem Value} {C : Int → Int → Prop} {gv : Int → Int → V} {gd : Int → Int → PyData} (h : OpR X f (rI C gv)) (hg : ∀ i j G, Rp G (gv i j) (gd i j)) : Op2 X f (gI C gd) := by
  refine ⟨_, h, ?_⟩
  intro D0 S σ o H x y dx dy cx cy K Q E Vx Vy hg' k
  unfold gI at hg'
  split at hg'
  · cases Vx.1
    cases Vy.1
    exact ⟨_, _, rfl, rfl, hg'.1, k _ _ _ H hg'.2 (Le.refl H) (Val.of (hg _ _ _))⟩
  · exact hg'.elim
theorem op2_I0 {f : Value → Value → Sem Value} {gv : Int → Int → V} {gd : Int → Int → PyData} (h : OpR X f (rI0 gv)) (hg : ∀ i j G, Rp G (gv i j) (gd i j)) : Op2 X f (gI (fun _ _ => True) gd) := by
  refine ⟨_, h, ?_⟩
  intro D0 S σ o H x y dx dy cx cy K Q E Vx Vy hg' k
  unfold gI at hg'
  split at hg'
  · cases Vx.1
    cases Vy.1
    exact ⟨_, _, rfl, rfl, k _ _ _ H hg'.2 (Le.refl H) (Val.of (hg _ _ _))⟩
  · exact hg'.elim
def gSub : R2D := gI (fun _ _ => True) fun i j => .int (i - j)
def gMul : R2D := gI CMulW fun i j => .int (i * j)
def gMulS : R2D := gI CMul fun i j => .int (i * j)
def gDiv : R2D := gI CDivW fun i j => .int (i / j)
def gMod : R2D := gI (fun _ j => j ≠ 0) fun i j => .int (i.fmod j)
def gPow : R2D := gI CPow fun i j => .int (i ^ j.toNat)
def gLt : R2D := gI (fun _ _ => True) fun i j => .bool (decide (i < j))
def gLe : R2D := gI (fun _ _ => True) fun i j => .bool (decide (i ≤ j))
def gGt : R2D := gI (fun _ _ => True) fun i j => .bool (decide (j < i))
def gGe : R2D := gI (fun _ _ => True) fun i j => .bool (decide (j ≤ i))
theorem o_sub : Op2 X (binaryOp .Sub) gSub := op2_I0 op_sub fun _ _ _ => .int _
theorem o_mul : Op2 X (binaryOp .Mult) gMul := op2_I op_mulW fun _ _ _ => .int _
theorem o_mulS : Op2 X (binaryOp .Mult) gMulS := op2_I op_mul fun _ _ _ => .int _
theorem o_div : Op2 X (binaryOp .FloorDiv) gDiv := op2_I op_fdivW fun _ _ _ => .int _
theorem o_mod : Op2 X (binaryOp .Mod) gMod := op2_I op_modN fun _ _ _ => .int _
theorem o_pow : Op2 X (binaryOp .Pow) gPow := op2_I op_pow fun _ _ _ => .int _
theorem o_lt : Op2 X (compareOp .Lt) gLt := op2_I0 op_lt fun _ _ _ => .bl _
theorem o_le : Op2 X (compareOp .LtE) gLe := op2_I0 op_le fun _ _ _ => .bl _
theorem o_gt : Op2 X (compareOp .Gt) gGt := op2_I0 op_gt fun _ _ _ => .bl _
theorem o_ge : Op2 X (compareOp .GtE) gGe := op2_I0 op_ge fun _ _ _ => .bl _

/-! sums: ints, lists, tuples, texts -/
def gAdd : R2D := fun x cx y cy K => match x, y with
  | .int i, .int j => K (.int (i + j)) True
  | .list xs, .list ys => xs.length + ys.length ≤ sizeLine ∧ K (.list (xs ++ ys)) ((cx ∨ flats xs = true) ∧ (cy ∨ flats ys = true))
  | .tuple xs, .tuple ys => xs.length + ys.length ≤ sizeLine ∧ K (.tuple (xs ++ ys)) ((cx ∨ flats xs = true) ∧ (cy ∨ flats ys = true))
  | .str s, .str t => s.length + t.length ≤ sizeLine ∧ K (.str (s ++ t)) True
  | _, _ => False
theorem OpR.or {f : Value → Value → Sem Value} {r1 r2 : R2} (h1 : OpR X f r1) (h2 : OpR X f r2) : OpR X f (fun x y H Q => r1 x y H Q ∨ r2 x y H Q) := by
  intro pins s σ H x y v u Q I rx ry h
  rcases h with h | h
  · exact h1 pins s σ H x y v u Q I rx ry h
  · exact h2 pins s σ H x y v u Q I rx ry h
theorem rp_lst {G : Hp} {v : V} {ds : List PyData} (h : Rp G v (.list ds)) : ∃ a vs, v = .ref a ∧ G a = some (.lst vs) ∧ RpAll G vs ds := by
  cases h with
  | lst e r => exact ⟨_, _, rfl, e, r⟩
theorem rp_tup {G : Hp} {v : V} {ds : List PyData} (h : Rp G v (.tuple ds)) : ∃ a vs, v = .ref a ∧ G a = some (.tup vs) ∧ RpAll G vs ds := by
  cases h with
  | tup e r => exact ⟨_, _, rfl, e, r⟩
/-- a list's items, as they may be kept -/
theorem Val.items {D0 : Addr → Bool} {S : Slots} {σ : St} {H : Hp} {o : Ow} {v : V} {ds : List PyData} {c : Prop} (E : Env D0 S σ H o) (h : Val D0 o H v (.list ds) c) :
    ∃ a vs, v = .ref a ∧ H a = some (.lst vs) ∧ RpAll (vt D0 o (co H)) vs ds ∧ (c ∨ flats ds = true → RpAll (vw D0 o (co H)) vs ds) := by
  obtain ⟨a, vs, rfl, e, r⟩ := rp_lst h.1
  have e' := co_lst (vt_le _ _ e)
  refine ⟨a, vs, rfl, e', r, fun z => ?_⟩
  rcases z with z | z
  · obtain ⟨b, ws, eb, e2, r2⟩ := rp_lst (h.2 z)
    cases eb
    have e3 := co_lst (vw_le _ _ e2)
    rw [e'] at e3
    cases e3
    exact r2
  · exact r.flat E.vtw z
theorem Val.titems {D0 : Addr → Bool} {S : Slots} {σ : St} {H : Hp} {o : Ow} {v : V} {ds : List PyData} {c : Prop} (E : Env D0 S σ H o) (h : Val D0 o H v (.tuple ds) c) :
    ∃ a vs, v = .ref a ∧ H a = some (.tup vs) ∧ RpAll (vt D0 o (co H)) vs ds ∧ (c ∨ flats ds = true → RpAll (vw D0 o (co H)) vs ds) := by
  obtain ⟨a, vs, rfl, e, r⟩ := rp_tup h.1
  have e' := co_tup (vt_le _ _ e)
  refine ⟨a, vs, rfl, e', r, fun z => ?_⟩
  rcases z with z | z
  · obtain ⟨b, ws, eb, e2, r2⟩ := rp_tup (h.2 z)
    cases eb
    have e3 := co_tup (vw_le _ _ e2)
    rw [e'] at e3
    cases e3
    exact r2
  · exact r.flat E.vtw z
theorem vt_new {D0 : Addr → Bool} {S : Slots} {σ : St} {H : Hp} {o : Ow} {p : Addr} {u : HO} (E : Env D0 S σ H o) (h : H p = none) : vt D0 o (co (upd H p u)) p = some (core u) := by
  unfold vt
  rw [(E.new h).1, (E.new h).2, co_upd]
  exact upd_same
theorem vw_new {D0 : Addr → Bool} {S : Slots} {σ : St} {H : Hp} {o : Ow} {p : Addr} {u : HO} (E : Env D0 S σ H o) (h : H p = none) : vw D0 o (co (upd H p u)) p = some (core u) := by
  unfold vw
  rw [(E.new h).1, (E.new h).2, co_upd]
  exact upd_same
/-- a new list, a new tuple, as a value -/
theorem Val.newL {D0 : Addr → Bool} {S : Slots} {σ : St} {H : Hp} {o : Ow} {p : Addr} {vs : List V} {ds : List PyData} {c : Prop} (E : Env D0 S σ H o) (h : H p = none) (r : Vals' D0 o H vs ds c) : Val D0 o (upd H p (.lst vs)) (.ref p) (.list ds) c :=
  ⟨.lst (vt_new E h) (r.1.mono (XE.of (Le.new h)).vt), fun hc => .lst (vw_new E h) ((r.2 hc).mono (XE.of (Le.new h)).vw)⟩
theorem Val.newT {D0 : Addr → Bool} {S : Slots} {σ : St} {H : Hp} {o : Ow} {p : Addr} {vs : List V} {ds : List PyData} {c : Prop} (E : Env D0 S σ H o) (h : H p = none) (r : Vals' D0 o H vs ds c) : Val D0 o (upd H p (.tup vs)) (.ref p) (.tuple ds) c :=
  ⟨.tup (vt_new E h) (r.1.mono (XE.of (Le.new h)).vt), fun hc => .tup (vw_new E h) ((r.2 hc).mono (XE.of (Le.new h)).vw)⟩
theorem SqL.at {K : PySem.W.Frag} {H : Hp} {a : Addr} {xs : List V} (h : H a = some (.lst xs)) : SqL K H a xs := .inl (.inl h)
theorem SqT.at {K : PySem.W.Frag} {H : Hp} {a : Addr} {xs : List V} (h : H a = some (.tup xs)) : SqT K H a xs := .inl (.inl h)
theorem o_add : Op2 X (binaryOp .Add) gAdd := by
  refine ⟨_, OpR.or op_add (OpR.or op_cat (OpR.or op_catA op_add_str)), ?_⟩
  intro D0 S σ o H x y dx dy cx cy K Q E Vx Vy hg k
  unfold gAdd at hg
  split at hg
  · cases Vx.1
    cases Vy.1
    exact .inl ⟨_, _, rfl, rfl, k _ _ _ H hg (Le.refl H) (Val.of (.int _))⟩
  · obtain ⟨a, vs, rfl, ea, ra, ca⟩ := Vx.items E
    obtain ⟨b, ws, rfl, eb, rb, cb⟩ := Vy.items E
    refine .inr (.inl ⟨a, b, vs, ws, rfl, rfl, ea, eb, by rw [ra.length, rb.length]; exact hg.1, fun p hp => ?_⟩)
    exact k _ _ _ _ hg.2 (Le.new hp) (Val.newL E hp ⟨ra.append rb, fun z => (ca z.1).append (cb z.2)⟩)
  · obtain ⟨a, vs, rfl, ea, ra, ca⟩ := Vx.titems E
    obtain ⟨b, ws, rfl, eb, rb, cb⟩ := Vy.titems E
    refine .inr (.inr (.inl ⟨a, b, vs, ws, rfl, rfl, SqT.at ea, SqT.at eb, by rw [ra.length, rb.length]; exact hg.1, fun z => ?_, fun _ z => ?_, fun _ _ p hp => ?_⟩))
    · subst z
      cases ra
      refine k _ _ _ H hg.2 (Le.refl H) ?_
      rw [List.nil_append]
      refine ⟨Vy.1, fun z => ?_⟩
      obtain ⟨b', ws', e1, e2, r2⟩ := rp_tup Vy.1
      cases e1
      exact .tup (E.vtw _ _ e2) (by
        have e3 := co_tup (vt_le _ _ e2)
        rw [eb] at e3
        cases e3
        exact cb z.2)
    · subst z
      cases rb
      refine k _ _ _ H hg.2 (Le.refl H) ?_
      rw [List.append_nil]
      refine ⟨Vx.1, fun z => ?_⟩
      obtain ⟨b', ws', e1, e2, r2⟩ := rp_tup Vx.1
      cases e1
      exact .tup (E.vtw _ _ e2) (by
        have e3 := co_tup (vt_le _ _ e2)
        rw [ea] at e3
        cases e3
        exact ca z.1)
    · exact k _ _ _ _ hg.2 (Le.new hp) (Val.newT E hp ⟨ra.append rb, fun z => (ca z.1).append (cb z.2)⟩)
  · cases Vx.1
    cases Vy.1
    exact .inr (.inr (.inr ⟨_, _, rfl, rfl, hg.1, k _ _ _ H hg.2 (Le.refl H) (Val.of (.str _))⟩))
  · exact hg.elim

/-! comparisons of data -/
mutual
theorem Rp.dp {K : PySem.W.Frag} {H : Hp} : ∀ {v : V} {d : PyData}, Rp (co H) v d → d.canLay0 = true → Dp K H v d
  | _, _, .non, _ => .non
  | _, _, .bl b, _ => .bl b
  | _, _, .int i, _ => .int i
  | _, _, .str s, _ => .str s
  | _, _, .lst e r, h => .lst (SqL.at (co_lst e)) (RpAll.dp r (by simpa [PyData.canLay0] using h))
  | _, _, .tup e r, h => .tup (SqT.at (co_tup e)) (RpAll.dp r (by simpa [PyData.canLay0] using h))
  | _, _, .dK e r, h => by simp [PyData.canLay0] at h
  | _, _, .dT e r, h => by simp [PyData.canLay0] at h
theorem RpAll.dp {K : PySem.W.Frag} {H : Hp} : ∀ {vs : List V} {ds : List PyData}, RpAll (co H) vs ds → PyData.canLayAll0 ds = true → DpAll K H vs ds
  | _, _, .nil, _ => .nil
  | _, _, .cons a b, h => by
    simp only [PyData.canLayAll0, Bool.and_eq_true] at h
    exact .cons (Rp.dp a h.1) (RpAll.dp b h.2)
end
theorem Val.dp {K : PySem.W.Frag} {D0 : Addr → Bool} {o : Ow} {H : Hp} {v : V} {d : PyData} {c : Prop} (h : Val D0 o H v d c) (s : SeqAt.shaped d = true) : Dp K H v d :=
  (h.1.mono vt_le).dp (SeqAt.canLay_of_shaped s)
def gEq : R2D := fun x _ y _ K => SeqAt.shaped x = true ∧ SeqAt.shaped y = true ∧ K (.bool (PyData.eqv x y)) True
def gNe : R2D := fun x _ y _ K => SeqAt.shaped x = true ∧ SeqAt.shaped y = true ∧ K (.bool (!PyData.eqv x y)) True
def gIn : R2D := fun x _ y _ K => match y with
  | .list ys => SeqAt.shaped x = true ∧ SeqAt.shaped (.list ys) = true ∧ K (.bool (ys.any fun z => PyData.eqv z x)) True
  | _ => False
def gNotIn : R2D := fun x _ y _ K => match y with
  | .list ys => SeqAt.shaped x = true ∧ SeqAt.shaped (.list ys) = true ∧ K (.bool (!ys.any fun z => PyData.eqv z x)) True
  | _ => False
def gIs : R2D := fun x _ y _ K => match x, y with
  | .none, .none => K (.bool true) True
  | _, .none => K (.bool false) True
  | _, _ => False
def gIsNot : R2D := fun x _ y _ K => match x, y with
  | .none, .none => K (.bool false) True
  | _, .none => K (.bool true) True
  | _, _ => False
theorem o_eq (a : At X W k) : Op2 X (compareOp .Eq) gEq :=
  ⟨_, op_eqD a.u64, fun D0 S σ o H x y dx dy cx cy K Q E Vx Vy hg k => ⟨dx, dy, Vx.dp hg.1, Vy.dp hg.2.1, hg.1, hg.2.1, k _ _ _ H hg.2.2 (Le.refl H) (Val.of (.bl _))⟩⟩
theorem o_ne (a : At X W k) : Op2 X (compareOp .NotEq) gNe :=
  ⟨_, op_neD a.u64, fun D0 S σ o H x y dx dy cx cy K Q E Vx Vy hg k => ⟨dx, dy, Vx.dp hg.1, Vy.dp hg.2.1, hg.1, hg.2.1, k _ _ _ H hg.2.2 (Le.refl H) (Val.of (.bl _))⟩⟩
theorem o_in (a : At X W k) : Op2 X (compareOp .In) gIn :=
  ⟨_, op_inD a.u65, fun D0 S σ o H x y dx dy cx cy K Q E Vx Vy hg k => by
    unfold gIn at hg
    split at hg
    · exact ⟨dx, _, Vx.dp hg.1, Vy.dp hg.2.1, hg.1, hg.2.1, k _ _ _ H hg.2.2 (Le.refl H) (Val.of (.bl _))⟩
    · exact hg.elim⟩
theorem o_notIn (a : At X W k) : Op2 X (compareOp .NotIn) gNotIn :=
  ⟨_, op_notInD a.u65, fun D0 S σ o H x y dx dy cx cy K Q E Vx Vy hg k => by
    unfold gNotIn at hg
    split at hg
    · exact ⟨dx, _, Vx.dp hg.1, Vy.dp hg.2.1, hg.1, hg.2.1, k _ _ _ H hg.2.2 (Le.refl H) (Val.of (.bl _))⟩
    · exact hg.elim⟩
theorem rp_none {G : Hp} {x : V} {d : PyData} (r : Rp G x d) : x = .non ↔ d = .none := by cases r <;> simp
theorem o_is : Op2 X (compareOp .Is) gIs :=
  ⟨_, op_isN, fun D0 S σ o H x y dx dy cx cy K Q E Vx Vy hg k => by
    unfold gIs at hg
    split at hg
    · cases Vx.1; cases Vy.1
      exact ⟨rfl, k _ _ _ H hg (Le.refl H) (Val.of (.bl _))⟩
    · rename_i hn
      cases Vy.1
      refine ⟨rfl, ?_⟩
      rw [decide_eq_false (fun z => hn ((rp_none Vx.1).mp z))]
      exact k _ _ _ H hg (Le.refl H) (Val.of (.bl _))
    · exact hg.elim⟩
theorem o_isNot : Op2 X (compareOp .IsNot) gIsNot :=
  ⟨_, op_notN, fun D0 S σ o H x y dx dy cx cy K Q E Vx Vy hg k => by
    unfold gIsNot at hg
    split at hg
    · cases Vx.1; cases Vy.1
      exact ⟨rfl, k _ _ _ H hg (Le.refl H) (Val.of (.bl _))⟩
    · rename_i hn
      cases Vy.1
      refine ⟨rfl, ?_⟩
      rw [decide_eq_false (fun z => hn ((rp_none Vx.1).mp z))]
      exact k _ _ _ H hg (Le.refl H) (Val.of (.bl _))
    · exact hg.elim⟩

/-! ### and, or, not; tests -/
def wNot (wa : WEx) : WEx := fun S A B => wa S (fun d _ S1 => bl? d fun b => A (.bool (!b)) True S1) B
def wAnd (wa wb : WEx) : WEx := fun S A B => wa S (fun d _ S1 => bl? d fun b => if b = true then wb S1 A B else A (.bool false) True S1) B
def wOr (wa wb : WEx) : WEx := fun S A B => wa S (fun d _ S1 => bl? d fun b => if b = true then A (.bool true) True S1 else wb S1 A B) B
theorem se_not {a : Expr} {wa : WEx} (ha : SE X W a wa) : SE X W (.UnaryOp .Not a pos) (wNot wa) := by
  obtain ⟨ta, pa, sa⟩ := ha.ex
  refine ⟨_, pe_not pa, ?_⟩
  intro D0 S σ H o A B Q E hw k kx
  refine sa D0 S σ H o _ B _ E hw (fun d c S1 v H1 h1 E1 x1 V1 => ?_) kx
  obtain ⟨b, rfl, h⟩ := bl_rp V1.1 h1
  exact ⟨b, rfl, k _ _ _ _ H1 h E1 x1 (Val.of (.bl _))⟩
theorem se_one {op : BoolOp} {a : Expr} {wa : WEx} (ha : SE X W a wa) : SE X W (.BoolOp op [a] pos) wa := by
  obtain ⟨ta, pa, sa⟩ := ha.ex
  exact ⟨_, pe_one pa, sa⟩
theorem se_and {a b : Expr} {rest : List Expr} {wa wb : WEx} (ha : SE X W a wa) (hb : SE X W (.BoolOp .And (b :: rest) pos) wb) : SE X W (.BoolOp .And (a :: b :: rest) pos) (wAnd wa wb) := by
  obtain ⟨ta, pa, sa⟩ := ha.ex
  obtain ⟨tb, pb, sb⟩ := hb.ex
  refine ⟨_, pe_and pa pb, ?_⟩
  intro D0 S σ H o A B Q E hw k kx
  refine sa D0 S σ H o _ B _ E hw (fun d c S1 v H1 h1 E1 x1 V1 => ?_) kx
  obtain ⟨b, rfl, h⟩ := bl_rp V1.1 h1
  refine ⟨b, rfl, ?_⟩
  cases b with
  | true => exact sb D0 S1 σ H1 o A B Q E1 h (fun d c S2 v H2 h2 E2 x2 V2 => k d c S2 v H2 h2 E2 (x1.trans x2) V2) (kx.on x1)
  | false => exact k _ _ _ _ H1 h E1 x1 (Val.of (.bl _))
theorem se_or {a b : Expr} {rest : List Expr} {wa wb : WEx} (ha : SE X W a wa) (hb : SE X W (.BoolOp .Or (b :: rest) pos) wb) : SE X W (.BoolOp .Or (a :: b :: rest) pos) (wOr wa wb) := by
  obtain ⟨ta, pa, sa⟩ := ha.ex
  obtain ⟨tb, pb, sb⟩ := hb.ex
  refine ⟨_, pe_or pa pb, ?_⟩
  intro D0 S σ H o A B Q E hw k kx
  refine sa D0 S σ H o _ B _ E hw (fun d c S1 v H1 h1 E1 x1 V1 => ?_) kx
  obtain ⟨b, rfl, h⟩ := bl_rp V1.1 h1
  refine ⟨b, rfl, ?_⟩
  cases b with
  | true => exact k _ _ _ _ H1 h E1 x1 (Val.of (.bl _))
  | false => exact sb D0 S1 σ H1 o A B Q E1 h (fun d c S2 v H2 h2 E2 x2 V2 => k d c S2 v H2 h2 E2 (x1.trans x2) V2) (kx.on x1)
/-- tests -/
def wB (wa : WEx) : WTx := fun S A B => wa S (fun d _ S1 => bl? d fun b => A b S1) B
def wTNot (wt : WTx) : WTx := fun S A B => wt S (fun b S1 => A (!b) S1) B
def wTAnd (wa wb : WTx) : WTx := fun S A B => wa S (fun b S1 => if b = true then wb S1 A B else A false S1) B
def wTOr (wa wb : WTx) : WTx := fun S A B => wa S (fun b S1 => if b = true then A true S1 else wb S1 A B) B
/-- a list, a tuple, an int by truth -/
def wTru (wa : WEx) : WTx := fun S A B => wa S (fun d _ S1 => match d with
  | .list xs => A (!xs.isEmpty) S1
  | .tuple xs => A (!xs.isEmpty) S1
  | .int i => A (i != 0) S1
  | .bool b => A b S1
  | _ => False) B
theorem st_b {a : Expr} {wa : WEx} (ha : SE X W a wa) (he : ∀ whole, isTrue a X.env whole = (do let v ← whole; standAt a.pos; holding [v] (truthy v)) := by intro _; rfl) : ST X W a (wB wa) := by
  obtain ⟨ta, pa, sa⟩ := ha.ex
  refine ⟨_, pt_val pa he, ?_⟩
  intro D0 S σ H o A B Q E hw k kx
  refine sa D0 S σ H o _ B _ E hw (fun d c S1 v H1 h1 E1 x1 V1 => ?_) kx
  obtain ⟨b, rfl, h⟩ := bl_rp V1.1 h1
  exact ⟨b, rfl, k b S1 H1 h E1 x1⟩
theorem rp_isEmpty {G : Hp} {vs : List V} {ds : List PyData} (r : RpAll G vs ds) : vs.isEmpty = ds.isEmpty := by cases r <;> rfl
theorem st_tru {a : Expr} {wa : WEx} (ha : SE X W a wa) (he : ∀ whole, isTrue a X.env whole = (do let v ← whole; standAt a.pos; holding [v] (truthy v)) := by intro _; rfl) : ST X W a (wTru wa) := by
  obtain ⟨ta, pa, sa⟩ := ha.ex
  refine ⟨_, pt_truth pa he, ?_⟩
  intro D0 S σ H o A B Q E hw k kx
  refine sa D0 S σ H o _ B _ E hw (fun d c S1 v H1 h1 E1 x1 V1 => ?_) kx
  split at h1
  · obtain ⟨a, vs, rfl, e, r, _⟩ := V1.items E1
    exact ⟨_, .inl ⟨vs, SqL.at e, rfl⟩, k _ S1 H1 (by rw [rp_isEmpty r]; exact h1) E1 x1⟩
  · obtain ⟨a, vs, rfl, e, r, _⟩ := V1.titems E1
    exact ⟨_, .inr (.inl ⟨vs, SqT.at e, rfl⟩), k _ S1 H1 (by rw [rp_isEmpty r]; exact h1) E1 x1⟩
  · cases V1.1
    exact ⟨_, rfl, k _ S1 H1 h1 E1 x1⟩
  · cases V1.1
    exact ⟨_, rfl, k _ S1 H1 h1 E1 x1⟩
  · exact h1.elim
theorem st_not {a : Expr} {wa : WTx} (ha : ST X W a wa) : ST X W (.UnaryOp .Not a pos) (wTNot wa) := by
  obtain ⟨ta, pa, sa⟩ := ha.ex
  exact ⟨_, pt_not pa, fun D0 S σ H o A B Q E hw k kx => sa D0 S σ H o _ B _ E hw (fun b S1 H1 h1 E1 x1 => k (!b) S1 H1 h1 E1 x1) kx⟩
structure SW (X : Cx) (W : WM) (e : Expr) (w : WTx) : Prop where
  ex : ∃ t, PW X e t ∧ SndT W t w
theorem st_w {a : Expr} {wa : WTx} (ha : SW X W a wa) : ST X W a wa := by
  obtain ⟨ta, pa, sa⟩ := ha.ex
  exact ⟨_, pa.pt, sa⟩
theorem sw_and1 {a : Expr} {wa : WTx} (ha : ST X W a wa) : SW X W (.BoolOp .And [a] pos) wa := by
  obtain ⟨ta, pa, sa⟩ := ha.ex
  exact ⟨_, pw_and1 pa, sa⟩
theorem sw_or1 {a : Expr} {wa : WTx} (ha : ST X W a wa) : SW X W (.BoolOp .Or [a] pos) wa := by
  obtain ⟨ta, pa, sa⟩ := ha.ex
  exact ⟨_, pw_or1 pa, sa⟩
theorem sw_and {a b : Expr} {rest : List Expr} {wa wb : WTx} (ha : ST X W a wa) (hb : SW X W (.BoolOp .And (b :: rest) pos) wb) : SW X W (.BoolOp .And (a :: b :: rest) pos) (wTAnd wa wb) := by
  obtain ⟨ta, pa, sa⟩ := ha.ex
  obtain ⟨tb, pb, sb⟩ := hb.ex
  refine ⟨_, pw_and pa pb, ?_⟩
  intro D0 S σ H o A B Q E hw k kx
  refine sa D0 S σ H o _ B _ E hw (fun b S1 H1 h1 E1 x1 => ?_) kx
  cases b with
  | true => exact sb D0 S1 σ H1 o A B Q E1 h1 (fun d S2 H2 h2 E2 x2 => k d S2 H2 h2 E2 (x1.trans x2)) (kx.on x1)
  | false => exact k _ _ H1 h1 E1 x1
theorem sw_or {a b : Expr} {rest : List Expr} {wa wb : WTx} (ha : ST X W a wa) (hb : SW X W (.BoolOp .Or (b :: rest) pos) wb) : SW X W (.BoolOp .Or (a :: b :: rest) pos) (wTOr wa wb) := by
  obtain ⟨ta, pa, sa⟩ := ha.ex
  obtain ⟨tb, pb, sb⟩ := hb.ex
  refine ⟨_, pw_or pa pb, ?_⟩
  intro D0 S σ H o A B Q E hw k kx
  refine sa D0 S σ H o _ B _ E hw (fun b S1 H1 h1 E1 x1 => ?_) kx
  cases b with
  | true => exact k _ _ H1 h1 E1 x1
  | false => exact sb D0 S1 σ H1 o A B Q E1 h1 (fun d S2 H2 h2 E2 x2 => k d S2 H2 h2 E2 (x1.trans x2)) (kx.on x1)
def wIf (wt : WTx) (wa wb : WEx) : WEx := fun S A B => wt S (fun b S1 => if b = true then wa S1 A B else wb S1 A B) B
theorem se_if {c a b : Expr} {wt : WTx} {wa wb : WEx} (hc : ST X W c wt) (ha : SE X W a wa) (hb : SE X W b wb) : SE X W (.IfExp c a b pos) (wIf wt wa wb) := by
  obtain ⟨tc, pc, sc⟩ := hc.ex
  obtain ⟨ta, pa, sa⟩ := ha.ex
  obtain ⟨tb, pb, sb⟩ := hb.ex
  refine ⟨_, pe_ifExp pc pa pb, ?_⟩
  intro D0 S σ H o A B Q E hw k kx
  refine sc D0 S σ H o _ B _ E hw (fun b S1 H1 h1 E1 x1 => ?_) kx
  cases b with
  | true => exact sa D0 S1 σ H1 o A B Q E1 h1 (fun d c S2 v H2 h2 E2 x2 V2 => k d c S2 v H2 h2 E2 (x1.trans x2) V2) (kx.on x1)
  | false => exact sb D0 S1 σ H1 o A B Q E1 h1 (fun d c S2 v H2 h2 E2 x2 V2 => k d c S2 v H2 h2 E2 (x1.trans x2) V2) (kx.on x1)

/-! ### argument lists, displays -/
def wNil : WLs := fun S A _ => A [] True S
def wCons (we : WEx) (wr : WLs) : WLs := fun S A B => we S (fun d c S1 => wr S1 (fun ds c' S2 => A (d :: ds) ((c ∨ flat d = true) ∧ c') S2) B) B
theorem sa_nil : SA X W [] wNil := ⟨_, pa_nil, fun D0 S σ H o A B Q E hw k kx => k _ _ _ _ H rfl hw E (XE.refl o H) ⟨.nil, fun _ => .nil⟩⟩
theorem sa_cons {e : Expr} {es : List Expr} {we : WEx} {wr : WLs} (he : SE X W e we) (hr : SA X W es wr) (hs : starEach (e :: es) X.env = (false, eval e X.env) :: starEach es X.env := by rfl) : SA X W (e :: es) (wCons we wr) := by
  obtain ⟨te, pe, se⟩ := he.ex
  obtain ⟨tr, pr, sr⟩ := hr.ex
  refine ⟨_, pa_cons pe pr hs, ?_⟩
  intro D0 S σ H o A B Q E hw k kx
  refine se D0 S σ H o _ B _ E hw (fun d c S1 v H1 h1 E1 x1 V1 => ?_) kx
  refine sr D0 S1 σ H1 o _ B _ E1 h1 (fun ds c2 S2 vs H2 hl h2 E2 x2 V2 => ?_) (kx.on x1)
  have V1' := (V1.mono x2).flat E2
  exact k _ _ S2 _ H2 (by rw [List.length_cons, List.length_cons, hl]) h2 E2 (x1.trans x2) ⟨.cons V1'.1 V2.1, fun z => .cons (V1'.2 z.1) (V2.2 z.2)⟩
def wTup (wa : WLs) : WEx := fun S A B => wa S (fun ds c S1 => ds.length ≤ sizeLine ∧ A (.tuple ds) c S1) B
def wLst (wa : WLs) : WLs := fun S A B => wa S (fun ds c S1 => ds.length ≤ sizeLine ∧ A ds c S1) B
def wO (wa : WLs) : WEx := fun S A B => wa S (fun ds c S1 => A (.list ds) c S1) B
theorem se_tup {es : List Expr} {wa : WLs} {x1} (h : SA X W es wa) : SE X W (.Tuple es x1 pos) (wTup wa) := by
  obtain ⟨ta, pa, sa⟩ := h.ex
  refine ⟨_, pe_tup pa, ?_⟩
  intro D0 S σ H o A B Q E hw k kx
  refine sa D0 S σ H o _ B _ E hw (fun ds c S1 vs H1 hl h1 E1 x1 V1 => ?_) kx
  exact ⟨by rw [V1.1.length]; exact h1.1, fun p hp => k _ _ S1 _ _ h1.2 (E1.xe (Le.new hp)) (x1.trans (XE.of (Le.new hp))) (Val.newT E1 hp V1)⟩
theorem so_lst {es : List Expr} {wa : WLs} (h : SA X W es wa) : SO X W (.List es pos) (wLst wa) := by
  obtain ⟨ta, pa, sa⟩ := h.ex
  refine ⟨_, pe_lst pa, ?_⟩
  intro D0 S σ H o A B Q E hw k kx
  refine sa D0 S σ H o _ B _ E hw (fun ds c S1 vs H1 hl h1 E1 x1 V1 => ?_) kx
  exact ⟨by rw [V1.1.length]; exact h1.1, fun p hp => k _ _ S1 _ p H1 h1.2 E1 x1 hp V1⟩
theorem se_o {e : Expr} {wa : WLs} (h : SO X W e wa) : SE X W e (wO wa) := by
  obtain ⟨ta, pa, sa⟩ := h.ex
  refine ⟨_, pa, ?_⟩
  intro D0 S σ H o A B Q E hw k kx
  exact sa D0 S σ H o _ B _ E hw (fun ds c S1 vs p H1 h1 E1 x1 hp V1 => k _ _ S1 _ _ h1 (E1.xe (Le.new hp)) (x1.trans (XE.of (Le.new hp))) (Val.newL E1 hp V1)) kx
end
end Pu

namespace Pu
open PySem L2
section
variable {X : Cx} {W : WM} {k : Nat} {pos : Pos}

/-! ### built-in functions by name -/
abbrev RD := List PyData → Prop → (PyData → Prop → Prop) → Prop
structure Fn (X : Cx) (f : Value) (g : RD) : Prop where
  ex : ∃ r, CallR X f r ∧ ∀ (D0 : Addr → Bool) (S : Slots) (σ : St) (o : Ow) (H : Hp) (vs : List V) (ds : List PyData) (c : Prop) (K : PyData → Prop → Prop) (Q : VK), Env D0 S σ H o → Vals' D0 o H vs ds c → g ds c K →
    (∀ z dz cz H', K dz cz → Le H H' → Val D0 o H' z dz cz → Q z H') → r vs H Q
/-- .. that make a new list -/
abbrev RDL := List PyData → Prop → (List PyData → Prop → Prop) → Prop
structure FnO (X : Cx) (f : Value) (g : RDL) : Prop where
  ex : ∃ r, CallR X f r ∧ ∀ (D0 : Addr → Bool) (S : Slots) (σ : St) (o : Ow) (H : Hp) (vs : List V) (ds : List PyData) (c : Prop) (K : List PyData → Prop → Prop) (Q : VK), Env D0 S σ H o → Vals' D0 o H vs ds c → g ds c K →
    (∀ zs cz ws p H1, K zs cz → Le H H1 → H1 p = none → Vals' D0 o H1 ws zs cz → Q (.ref p) (upd H1 p (.lst ws))) → r vs H Q
def wFn (g : RD) (wa : WLs) : WEx := fun S A B => wa S (fun ds c S1 => g ds c fun z cz => A z cz S1) B
def wFnO (g : RDL) (wa : WLs) : WLs := fun S A B => wa S (fun ds c S1 => g ds c fun zs cz => A zs cz S1) B
theorem snd_fn {g : RD} {wa : WLs} {ta : TA} {r : List V → Hp → VK → Prop} {n : Nat} (sa : SndA W ta n wa) (hr : ∀ (D0 : Addr → Bool) (S : Slots) (σ : St) (o : Ow) (H : Hp) (vs : List V) (ds : List PyData) (c : Prop) (K : PyData → Prop → Prop) (Q : VK), Env D0 S σ H o → Vals' D0 o H vs ds c → g ds c K →
    (∀ z dz cz H', K dz cz → Le H H' → Val D0 o H' z dz cz → Q z H') → r vs H Q) : Snd W (tCB r ta) (wFn g wa) := by
  intro D0 S σ H o A B Q E hw k kx
  refine sa D0 S σ H o _ B _ E hw (fun ds c S1 vs H1 hl h1 E1 x1 V1 => ?_) kx
  exact hr D0 S1 σ o H1 vs ds c _ Q E1 V1 h1 fun z dz cz H' hz le V => k _ _ S1 z H' hz (E1.xe le) (x1.trans (XE.of le)) V
theorem se_fb {id : String} {x : Str} {p : Pos} {e : Expr} {es : List Expr} {g : RD} {wa : WLs} (hc : Fn X (.builtin id) g) (hm : X.mg x = none) (hv : bootBuiltins x = some (.builtin id)) (ha : SA X W (e :: es) wa) (hg : Gl X x := by rfl) (hn : x ≠ "__name__" := by decide) (hdb : (x == ("__debug__" : Str)) = false := by decide)
    (he : starEach (e :: es) X.env = (false, eval e X.env) :: starEach es X.env := by rfl) (hpl : (backTo pos (starEach es X.env)).any (·.1) = false := by rfl) : SE X W (.Call (.Name x p) (e :: es) [] pos) (wFn g wa) := by
  obtain ⟨ta, pa, sa⟩ := ha.ex
  obtain ⟨r, hr, h⟩ := hc.ex
  exact ⟨_, pe_callB hr hg hm hv pa hn hdb he hpl, snd_fn sa h⟩
theorem se_ft {T : String} {x : Str} {p : Pos} {e : Expr} {es : List Expr} {g : RD} {wa : WLs} (hc : Fn X (.type T) g) (hm : X.mg x = none) (hv : bootBuiltins x = some (.type T)) (ha : SA X W (e :: es) wa) (hg : Gl X x := by rfl) (hn : x ≠ "__name__" := by decide) (hdb : (x == ("__debug__" : Str)) = false := by decide)
    (he : starEach (e :: es) X.env = (false, eval e X.env) :: starEach es X.env := by rfl) (hpl : (backTo pos (starEach es X.env)).any (·.1) = false := by rfl) : SE X W (.Call (.Name x p) (e :: es) [] pos) (wFn g wa) := by
  obtain ⟨ta, pa, sa⟩ := ha.ex
  obtain ⟨r, hr, h⟩ := hc.ex
  exact ⟨_, pe_callTy hr hg hm hv pa hn hdb he hpl, snd_fn sa h⟩
theorem snd_fnO {g : RDL} {wa : WLs} {ta : TA} {r : List V → Hp → VK → Prop} {n : Nat} (sa : SndA W ta n wa) (hr : ∀ (D0 : Addr → Bool) (S : Slots) (σ : St) (o : Ow) (H : Hp) (vs : List V) (ds : List PyData) (c : Prop) (K : List PyData → Prop → Prop) (Q : VK), Env D0 S σ H o → Vals' D0 o H vs ds c → g ds c K →
    (∀ zs cz ws p H1, K zs cz → Le H H1 → H1 p = none → Vals' D0 o H1 ws zs cz → Q (.ref p) (upd H1 p (.lst ws))) → r vs H Q) : SndO W (tCB r ta) (wFnO g wa) := by
  intro D0 S σ H o A B Q E hw k kx
  refine sa D0 S σ H o _ B _ E hw (fun ds c S1 vs H1 hl h1 E1 x1 V1 => ?_) kx
  exact hr D0 S1 σ o H1 vs ds c _ Q E1 V1 h1 fun zs cz ws p H2 hz le hp V => k _ _ S1 ws p H2 hz (E1.xe le) (x1.trans (XE.of le)) hp V
theorem so_fb {id : String} {x : Str} {p : Pos} {e : Expr} {es : List Expr} {g : RDL} {wa : WLs} (hc : FnO X (.builtin id) g) (hm : X.mg x = none) (hv : bootBuiltins x = some (.builtin id)) (ha : SA X W (e :: es) wa) (hg : Gl X x := by rfl) (hn : x ≠ "__name__" := by decide) (hdb : (x == ("__debug__" : Str)) = false := by decide)
    (he : starEach (e :: es) X.env = (false, eval e X.env) :: starEach es X.env := by rfl) (hpl : (backTo pos (starEach es X.env)).any (·.1) = false := by rfl) : SO X W (.Call (.Name x p) (e :: es) [] pos) (wFnO g wa) := by
  obtain ⟨ta, pa, sa⟩ := ha.ex
  obtain ⟨r, hr, h⟩ := hc.ex
  exact ⟨_, pe_callB hr hg hm hv pa hn hdb he hpl, snd_fnO sa h⟩
theorem so_ft {T : String} {x : Str} {p : Pos} {e : Expr} {es : List Expr} {g : RDL} {wa : WLs} (hc : FnO X (.type T) g) (hm : X.mg x = none) (hv : bootBuiltins x = some (.type T)) (ha : SA X W (e :: es) wa) (hg : Gl X x := by rfl) (hn : x ≠ "__name__" := by decide) (hdb : (x == ("__debug__" : Str)) = false := by decide)
    (he : starEach (e :: es) X.env = (false, eval e X.env) :: starEach es X.env := by rfl) (hpl : (backTo pos (starEach es X.env)).any (·.1) = false := by rfl) : SO X W (.Call (.Name x p) (e :: es) [] pos) (wFnO g wa) := by
  obtain ⟨ta, pa, sa⟩ := ha.ex
  obtain ⟨r, hr, h⟩ := hc.ex
  exact ⟨_, pe_callTy hr hg hm hv pa hn hdb he hpl, snd_fnO sa h⟩

/-! ### defs of the text -/
/-- what a def makes of its arguments: the wish for its value, the wish for an exception -/
abbrev Spc := List PyData → (PyData → Prop) → (XC → Prop) → Prop
def hid (D0 : Addr → Bool) (C : Hp) : Hp := fun a => if D0 a = true then none else C a
/-- the promise of a def that changes nothing; n: how many parameters -/
def spOf (mg : Str → Option Value) (n : Nat) (sp : Spc) : Sp := fun vs H Q E => ∃ (ds : List PyData) (D0 : Addr → Bool) (A : PyData → Prop) (B : XC → Prop), ds.length = n ∧ (∀ a, D0 a = true → ∃ u, co H a = some u ∧ isTup u = false) ∧ RpAll (hid D0 (co H)) vs ds ∧ sp ds A B ∧
  (∀ d v H', A d → Le H H' → Rp (hid D0 (co H')) v d → Q v H') ∧ (∀ x cls dd H', B x → Le H H' → XOk mg H' x cls dd → E cls dd H')
theorem spOf_len {mg : Str → Option Value} {n : Nat} {sp : Spc} {vs : List V} {H : Hp} {Q : VK} {E : XK} (h : spOf mg n sp vs H Q E) : vs.length = n := by
  obtain ⟨ds, D0, A, B, h1, h2, h3, _⟩ := h
  rw [h3.length, h1]
def wCall (sp : Spc) (wa : WLs) : WEx := fun S A B => wa S (fun ds c S1 => sp ds (fun d => A d c S1) (fun x => B x S1)) B
theorem hid_vw {D0 : Addr → Bool} {o : Ow} {C : Hp} : hid (fun a => D0 a || (o a).isSome) C = vw D0 o C := rfl
theorem hid_vt {D0 : Addr → Bool} {o : Ow} {C : Hp} : hid (fun a => D0 a || mutO (o a)) C = vt D0 o C := rfl
theorem Env.deadV {D0 : Addr → Bool} {S : Slots} {σ : St} {H : Hp} {o : Ow} (E : Env D0 S σ H o) : ∀ a, (D0 a || (o a).isSome) = true → ∃ u, co H a = some u ∧ isTup u = false := fun a h => by
  rw [Bool.or_eq_true] at h
  rcases h with h | h
  · exact E.dead a h
  · cases e : o a with
    | none => rw [e] at h; cases h
    | some p => exact (E.live a p e).2
theorem Env.deadM {D0 : Addr → Bool} {S : Slots} {σ : St} {H : Hp} {o : Ow} (E : Env D0 S σ H o) : ∀ a, (D0 a || mutO (o a)) = true → ∃ u, co H a = some u ∧ isTup u = false := fun a h => by
  rw [Bool.or_eq_true] at h
  rcases h with h | h
  · exact E.dead a h
  · cases e : o a with
    | none => rw [e] at h; cases h
    | some p => exact (E.live a p e).2
/-- a def as it stands, with its promise -/
structure Def (P : Program) (w : World) (K : PySem.W.Frag) (mg : Str → Option Value) (base : Heap) (k : Nat) (x : Str) (n : Nat) (sp : Sp) : Prop where
  ex : ∃ (f : Addr) (fd : FuncData) (ps : List Str), FnOk P w K mg base (L2.CX P w) k f fd ps sp ∧ mg x = some (.ref f) ∧ PySem.W.keepIn K (.ref f) = true ∧ Binds K fd ps [] ∧ ps.length = n
theorem se_call {j n : Nat} {sp : Spc} {x : Str} {p : Pos} {e : Expr} {es : List Expr} {wa : WLs} (a : At X W k) (F : Def X.prog X.w X.K X.mg X.base j x n (spOf X.mg n sp)) (hj : j ≤ k) (ha : SA X W (e :: es) wa) (hg : Gl X x := by rfl) (hdb : (x == ("__debug__" : Str)) = false := by decide)
    (he : starEach (e :: es) X.env = (false, eval e X.env) :: starEach es X.env := by rfl) (hpl : (backTo pos (starEach es X.env)).any (·.1) = false := by rfl) (hn : (e :: es).length = n := by rfl) : SE X W (.Call (.Name x p) (e :: es) [] pos) (wCall sp wa) := by
  obtain ⟨ta, pa, sa⟩ := ha.ex
  obtain ⟨f, fd, ps, G, hm, hk, hb, hps⟩ := F.ex
  refine ⟨_, pe_callS G (a.room.mono hj) hg hm hk hb a.tk pa hdb he hpl, ?_⟩
  intro D0 S σ H o A B Q E hw kk kx
  refine sa D0 S σ H o _ B _ E hw (fun ds c S1 vs H1 hl h1 E1 x1 V1 => ?_) kx
  have hl := hl.trans hn
  have ex : ∀ x cls dd H', B x S1 → Le H1 H' → XOk X.mg H' x cls dd → W.w cls dd σ H' := fun x cls dd H' hx le ok => kx x S1 cls dd H' hx (E1.xe le) (x1.trans (XE.of le)) (by rw [a.mq]; exact ok)
  by_cases hc : c
  · refine ⟨ds, fun a => D0 a || (o a).isSome, _, _, hl, E1.deadV, V1.2 hc, h1, fun d v H' hd le r => ?_, fun x cls dd H' hx le ok => ex x cls dd H' hx le ok⟩
    exact kk d c S1 v H' hd (E1.xe le) (x1.trans (XE.of le)) ⟨Rp.mono vw_le_vt r, fun _ => r⟩
  · refine ⟨ds, fun a => D0 a || mutO (o a), _, _, hl, E1.deadM, V1.1, h1, fun d v H' hd le r => ?_, fun x cls dd H' hx le ok => ex x cls dd H' hx le ok⟩
    exact kk d c S1 v H' hd (E1.xe le) (x1.trans (XE.of le)) ⟨r, fun z => absurd z hc⟩

/-! ### places -/
def atD (xs : List PyData) (i : Int) : Option PyData := (ixN xs.length i).bind fun j => xs[j]?
theorem rp_at {G : Hp} {vs : List V} {ds : List PyData} {i : Int} {d : PyData} (r : RpAll G vs ds) (h : atD ds i = some d) : ∃ v, atI vs i = some v ∧ Rp G v d := by
  unfold atD at h
  unfold atI
  rw [r.length]
  cases e : ixN ds.length i with
  | none => rw [e] at h; cases h
  | some j =>
    rw [e] at h
    obtain ⟨v, hv, rv⟩ := r.get (i := j) (d := d) h
    exact ⟨v, hv, rv⟩
theorem rp_at2 {G G' : Hp} {vs : List V} {ds : List PyData} {i : Int} {d : PyData} {v : V} (r : RpAll G vs ds) (h : atD ds i = some d) (hv : atI vs i = some v) : Rp G v d := by
  obtain ⟨v', h1, h2⟩ := rp_at r h
  rw [hv] at h1
  cases h1
  exact h2
def wIx (wa wb : WEx) : WEx := fun S A B => wa S (fun x cx S1 => wb S1 (fun y _ S2 => match x, y with
  | .list xs, .int i => ∃ d, atD xs i = some d ∧ A d (cx ∨ flats xs = true) S2
  | .tuple xs, .int i => ∃ d, atD xs i = some d ∧ A d (cx ∨ flats xs = true) S2
  | .str s, .int i => s.length ≤ sizeLine ∧ ∃ z, atI s.cps.toList i = some z ∧ A (.str ⟨#[z]⟩) True S2
  | _, _ => False) B) B
theorem se_ix {a b : Expr} {wa wb : WEx} (ha : SE X W a wa) (hb : SE X W b wb) (hs : PlainIx b := by exact fun _ _ => rfl) : SE X W (.Subscript a b pos) (wIx wa wb) := by
  obtain ⟨ta, pa, sa⟩ := ha.ex
  obtain ⟨tb, pb, sb⟩ := hb.ex
  refine ⟨_, pe_ix ix_seq pa pb hs, ?_⟩
  intro D0 S σ H o A B Q E hw k kx
  refine sa D0 S σ H o _ B _ E hw (fun x cx S1 v H1 h1 E1 x1 V1 => ?_) kx
  refine sb D0 S1 σ H1 o _ B _ E1 h1 (fun y cy S2 u H2 h2 E2 x2 V2 => ?_) (kx.on x1)
  have V1' := V1.mono x2
  split at h2
  · obtain ⟨d, hd, h2⟩ := h2
    cases V2.1
    obtain ⟨a, vs, rfl, e, r, c⟩ := V1'.items E2
    obtain ⟨w', e1, r1⟩ := rp_at r hd
    exact .inl ⟨a, vs, _, w', rfl, rfl, SqL.at e, e1, k _ _ S2 _ H2 h2 E2 (x1.trans x2) ⟨r1, fun z => rp_at2 (G' := co H2) (c z) hd e1⟩⟩
  · obtain ⟨d, hd, h2⟩ := h2
    cases V2.1
    obtain ⟨a, vs, rfl, e, r, c⟩ := V1'.titems E2
    obtain ⟨w', e1, r1⟩ := rp_at r hd
    exact .inr (.inl ⟨a, vs, _, w', rfl, rfl, SqT.at e, e1, k _ _ S2 _ H2 h2 E2 (x1.trans x2) ⟨r1, fun z => rp_at2 (G' := co H2) (c z) hd e1⟩⟩)
  · obtain ⟨hz, z, hd, h2⟩ := h2
    cases V2.1
    cases V1'.1
    exact .inr (.inr ⟨_, _, z, rfl, rfl, hz, hd, k _ _ S2 _ H2 h2 E2 (x1.trans x2) (Val.of (.str _))⟩)
  · exact h2.elim

/-! ### targets; L: the slots that may be stored -/
abbrev WTg := PyData → Prop → Slots → (Slots → Prop) → Prop
abbrev WTgs := List PyData → Prop → Slots → (Slots → Prop) → Prop
/-- but for L the frame is as it was -/
structure Kept (L : List Nat) (S : Slots) (σ : St) (S' : Slots) (σ' : St) : Prop where
  ln : σ'.length = σ.length
  st : ∀ j, j ∉ L → σ'[j]? = σ[j]?
  sl : ∀ j, j ∉ L → S'[j]? = S[j]?
theorem Kept.refl (L : List Nat) (S : Slots) (σ : St) : Kept L S σ S σ := ⟨rfl, fun _ _ => rfl, fun _ _ => rfl⟩
theorem Kept.trans {L M : List Nat} {S S1 S2 : Slots} {σ σ1 σ2 : St} (a : Kept L S σ S1 σ1) (b : Kept M S1 σ1 S2 σ2) : Kept (L ++ M) S σ S2 σ2 :=
  ⟨b.ln.trans a.ln, fun j h => (b.st j fun z => h (List.mem_append_right _ z)).trans (a.st j fun z => h (List.mem_append_left _ z)), fun j h => (b.sl j fun z => h (List.mem_append_right _ z)).trans (a.sl j fun z => h (List.mem_append_left _ z))⟩
def SndG (L : List Nat) (g : TG) (w : WTg) : Prop := ∀ (D0 : Addr → Bool) (S : Slots) (σ : St) (H : Hp) (o : Ow) (v : V) (d : PyData) (c : Prop) (K : Slots → Prop) (Q : St → Hp → Prop), Env D0 S σ H o → Val D0 o H v d c → w d c S K →
  (∀ S' σ', K S' → Env D0 S' σ' H o → Kept L S σ S' σ' → Q σ' H) → g v σ H Q
def SndGs (L : List Nat) (g : TGs) (w : WTgs) : Prop := ∀ (D0 : Addr → Bool) (S : Slots) (σ : St) (H : Hp) (o : Ow) (vs : List V) (ds : List PyData) (c : Prop) (K : Slots → Prop) (Q : St → Hp → Prop), Env D0 S σ H o → Vals' D0 o H vs ds c → w ds c S K →
  (∀ S' σ', K S' → Env D0 S' σ' H o → Kept L S σ S' σ' → Q σ' H) → g vs σ H Q
structure SG (X : Cx) (tg : Expr) (L : List Nat) (w : WTg) : Prop where
  ex : ∃ t, PG X tg t ∧ SndG L t w
structure SGs (X : Cx) (tgs : List Expr) (L : List Nat) (w : WTgs) : Prop where
  ex : ∃ t, PGs X tgs t ∧ SndGs L t w
/-- slot i holds data -/
theorem Env.put {D0 : Addr → Bool} {S : Slots} {σ : St} {H : Hp} {o : Ow} {v : V} {d : PyData} (E : Env D0 S σ H o) (i : Nat) (hr : Rp (vw D0 o (co H)) v d) : Env D0 (S.set i (.im d)) (σ.set i (some v)) H o := by
  refine ⟨by rw [List.length_set, List.length_set]; exact E.len, E.live, E.dead, fun j s h => ?_, E.nf⟩
  by_cases e : i = j
  · subst e
    have hi : i < S.length := by
      have := List.getElem?_eq_some_iff.mp h
      obtain ⟨h1, _⟩ := this
      rw [List.length_set] at h1
      exact h1
    rw [List.getElem?_set_self hi] at h
    cases h
    exact ⟨v, by rw [List.getElem?_set_self (by rw [E.len]; exact hi)], hr⟩
  · rw [List.getElem?_set_ne e] at h ⊢
    exact E.sl j s h
def wN (i : Nat) : WTg := fun d c S K => (c ∨ flat d = true) ∧ K (S.set i (.im d))
theorem sg_n (i : Nat) {x : Str} {p : Pos} (nd : X.N.Nodup) (hi : X.N[i]? = some x := by rfl) (hx : Loc X.env.scope x := by first | exact Or.inl rfl | exact Or.inr rfl) (hf : X.fn x = true ∨ X.env.scope.names.lookup x = some .local := by first | exact .inl rfl | exact .inr rfl) : SG X (.Name x p) [i] (wN i) := by
  refine ⟨_, pg_name nd hi hx hf, ?_⟩
  intro D0 S σ H o v d c K Q E V hw k
  refine k _ _ hw.2 (E.put i ((V.flat E).2 hw.1)) ⟨by rw [List.length_set], fun j hj => ?_, fun j hj => ?_⟩
  · rw [List.getElem?_set_ne (fun z => hj (by rw [z]; exact List.mem_cons_self))]
  · rw [List.getElem?_set_ne (fun z => hj (by rw [z]; exact List.mem_cons_self))]
def wGNil : WTgs := fun ds _ S K => ds = [] ∧ K S
def wGCons (w : WTg) (ws : WTgs) : WTgs := fun ds c S K => match ds with
  | d :: r => w d c S fun S1 => ws r c S1 K
  | [] => False
theorem sgs_nil : SGs X [] [] wGNil := ⟨_, pgs_nil, fun D0 S σ H o vs ds c K Q E V hw k => by
  obtain ⟨rfl, hw⟩ := hw
  have e := V.1.length
  exact ⟨List.eq_nil_of_length_eq_zero e, k _ _ hw E (Kept.refl _ _ _)⟩⟩
theorem sgs_cons {t : Expr} {ts : List Expr} {L M : List Nat} {w : WTg} {ws : WTgs} (h1 : SG X t L w) (h2 : SGs X ts M ws)
    (hs : (assignEach (t :: ts) X.env).map (·.2) = assign t X.env :: (assignEach ts X.env).map (·.2) := by rfl) : SGs X (t :: ts) (L ++ M) (wGCons w ws) := by
  obtain ⟨g, pg, sg⟩ := h1.ex
  obtain ⟨gs, pgs, sgs⟩ := h2.ex
  refine ⟨_, pgs_cons pg pgs hs, ?_⟩
  intro D0 S σ H o vs ds c K Q E V hw k
  unfold wGCons at hw
  split at hw
  · rename_i d r
    obtain ⟨V1, V2⟩ := V
    cases V1 with
    | cons a b =>
      refine ⟨_, _, rfl, ?_⟩
      refine sg D0 S σ H o _ d c _ _ E ⟨a, fun z => by cases V2 z with | cons a' b' => exact a'⟩ hw fun S1 σ1 h1 E1 k1 => ?_
      exact sgs D0 S1 σ1 H o _ r c K Q E1 ⟨b, fun z => by cases V2 z with | cons a' b' => exact b'⟩ h1 fun S2 σ2 h2 E2 k2 => k S2 σ2 h2 E2 (k1.trans k2)
  · exact hw.elim
def wGT (n : Nat) (ws : WTgs) : WTg := fun d c S K => match d with
  | .tuple ds => ds.length = n ∧ ws ds (c ∨ flats ds = true) S K
  | _ => False
theorem sg_t {es : List Expr} {n kk : Nat} {L : List Nat} {ws : WTgs} (hc : X.calm = true) (h : SGs X es L ws)
    (hn : (assignEach es X.env).length = n := by rfl) (hst : (assignEach es X.env).findIdx? (·.1) = none := by rfl) : SG X (.Tuple es kk pos) L (wGT n ws) := by
  obtain ⟨g, pg, sg⟩ := h.ex
  refine ⟨_, pg_tup hc pg hn hst, ?_⟩
  intro D0 S σ H o v d c K Q E V hw k
  unfold wGT at hw
  split at hw
  · obtain ⟨a, vs, rfl, e, r, rc⟩ := V.titems E
    exact ⟨a, vs, rfl, SqT.at e, by rw [r.length]; exact hw.1, sg D0 S σ H o vs _ _ K Q E ⟨r, rc⟩ hw.2 k⟩
  · exact hw.elim
end
end Pu

namespace Pu
open PySem L2

/-! ### what is walked -/
/-- what is nobody's and locked stays locked -/
def LkX (o : Ow) (H H' : Hp) : Prop := ∀ a od u, o a = none → H a = some (.frz od u) → H' a = some (.frz od u)
theorem XE.lk {o : Ow} {H H' : Hp} (h : XE o H H') : LkX o H H' := fun a od u n e => h a _ (by rw [n]; rfl) e
/-- the walk J goes through the data ds; Z: what it stands on -/
structure Wk (J : It) (ds : List PyData) (c : Prop) (Z : (Addr → Bool) → Ow → Hp → Prop) : Prop where
  go : ∀ D0 o H i, Z D0 o H → i < ds.length → J.go i H
  stop : ∀ D0 o H, Z D0 o H → J.stop ds.length H
  yld : ∀ D0 S σ o H i x H' d, Z D0 o H → Env D0 S σ H o → ds[i]? = some d → J.yld i H x H' → Le H H' ∧ Val D0 o H' x d c
  xe : ∀ D0 D0' o H H', Z D0 o H → LkX o H H' → Le (vt D0 o (co H)) (vt D0' o (co H')) → Le (vw D0 o (co H)) (vw D0' o (co H')) → Z D0' o H'
  fr : ∀ D0 o H o' H', c → Z D0 o H → Fr o H o' H' → Le (vw D0 o (co H)) (vw D0 o' (co H')) → Z D0 o' H'
def SndI (W : WM) (wi : TI) (w : WLs) : Prop := ∀ (D0 : Addr → Bool) (S : Slots) (σ : St) (H : Hp) (o : Ow) (A : List PyData → Prop → Slots → Prop) (B : EK) (R : It → Hp → Prop), Env D0 S σ H o → w S A B →
  (∀ ds c S' J H' Z, A ds c S' → Env D0 S' σ H' o → XE o H H' → Wk J ds c Z → Z D0 o H' → R J H') → Xw W D0 σ o H B → wi σ H R
structure SI (X : Cx) (W : WM) (tg e : Expr) (w : WLs) : Prop where
  ex : ∃ wi, PI X tg e wi ∧ SndI W wi w

section
variable {X : Cx} {W : WM} {k : Nat} {pos : Pos}
def zL (a : Addr) (ds : List PyData) (c : Prop) : (Addr → Bool) → Ow → Hp → Prop := fun D0 o H => Rp (vt D0 o (co H)) (.ref a) (.list ds) ∧ (c → Rp (vw D0 o (co H)) (.ref a) (.list ds))
def zT (a : Addr) (ds : List PyData) (c : Prop) : (Addr → Bool) → Ow → Hp → Prop := fun D0 o H => Rp (vt D0 o (co H)) (.ref a) (.tuple ds) ∧ (c → Rp (vw D0 o (co H)) (.ref a) (.tuple ds))
theorem wk_list {K : PySem.W.Frag} {a : Addr} {ds : List PyData} {c : Prop} : Wk (Itl K a) ds c (zL a ds c) where
  go := fun D0 o H i z hi => by
    obtain ⟨b, vs, e, h, r⟩ := rp_lst z.1
    cases e
    have hi' : i < vs.length := by rw [r.length]; exact hi
    exact ⟨vs, vs[i], SqL.at (co_lst (vt_le _ _ h)), by rw [List.getElem?_eq_getElem hi']⟩
  stop := fun D0 o H z => by
    obtain ⟨b, vs, e, h, r⟩ := rp_lst z.1
    cases e
    exact ⟨vs, SqL.at (co_lst (vt_le _ _ h)), by rw [r.length]; exact Nat.le_refl _⟩
  yld := fun D0 S σ o H i x H' d z E hd y => by
    obtain ⟨rfl, y⟩ := y
    obtain ⟨b, vs, e, h, r⟩ := rp_lst z.1
    cases e
    have hx := y vs (SqL.at (co_lst (vt_le _ _ h)))
    obtain ⟨v, h1, h2⟩ := r.get hd
    rw [hx] at h1
    cases h1
    refine ⟨Le.refl _, h2, fun hc => ?_⟩
    obtain ⟨b', vs', e', h', r'⟩ := rp_lst (z.2 hc)
    cases e'
    have e2 := co_lst (vt_le _ _ h)
    have e3 := co_lst (vw_le _ _ h')
    rw [e2] at e3
    cases e3
    obtain ⟨v', h1', h2'⟩ := r'.get hd
    rw [hx] at h1'
    cases h1'
    exact h2'
  xe := fun D0 D0' o H H' z _ l1 l2 => ⟨z.1.mono l1, fun hc => (z.2 hc).mono l2⟩
  fr := fun D0 o H o' H' hc z _ l => ⟨((z.2 hc).mono l).mono vw_le_vt, fun _ => (z.2 hc).mono l⟩
theorem wk_tup {K : PySem.W.Frag} {a : Addr} {ds : List PyData} {c : Prop} : Wk (Itt K a) ds c (zT a ds c) where
  go := fun D0 o H i z hi => by
    obtain ⟨b, vs, e, h, r⟩ := rp_tup z.1
    cases e
    have hi' : i < vs.length := by rw [r.length]; exact hi
    exact ⟨vs, vs[i], SqT.at (co_tup (vt_le _ _ h)), by rw [List.getElem?_eq_getElem hi']⟩
  stop := fun D0 o H z => by
    obtain ⟨b, vs, e, h, r⟩ := rp_tup z.1
    cases e
    exact ⟨vs, SqT.at (co_tup (vt_le _ _ h)), by rw [r.length]; exact Nat.le_refl _⟩
  yld := fun D0 S σ o H i x H' d z E hd y => by
    obtain ⟨rfl, y⟩ := y
    obtain ⟨b, vs, e, h, r⟩ := rp_tup z.1
    cases e
    have hx := y vs (SqT.at (co_tup (vt_le _ _ h)))
    obtain ⟨v, h1, h2⟩ := r.get hd
    rw [hx] at h1
    cases h1
    refine ⟨Le.refl _, h2, fun hc => ?_⟩
    obtain ⟨b', vs', e', h', r'⟩ := rp_tup (z.2 hc)
    cases e'
    have e2 := co_tup (vt_le _ _ h)
    have e3 := co_tup (vw_le _ _ h')
    rw [e2] at e3
    cases e3
    obtain ⟨v', h1', h2'⟩ := r'.get hd
    rw [hx] at h1'
    cases h1'
    exact h2'
  xe := fun D0 D0' o H H' z _ l1 l2 => ⟨z.1.mono l1, fun hc => (z.2 hc).mono l2⟩
  fr := fun D0 o H o' H' hc z _ l => ⟨((z.2 hc).mono l).mono vw_le_vt, fun _ => (z.2 hc).mono l⟩
def rangeD (lo : Int) (n : Nat) : List PyData := (List.range n).map fun (i : Nat) => PyData.int (lo + (i : Int))
theorem rangeD_get {lo : Int} {n i : Nat} {d : PyData} (h : (rangeD lo n)[i]? = some d) : i < n ∧ d = .int (lo + (i : Int)) := by
  unfold rangeD at h
  rw [List.getElem?_map] at h
  by_cases hi : i < n
  · rw [List.getElem?_range hi] at h
    exact ⟨hi, (Option.some.inj h).symm⟩
  · rw [List.getElem?_eq_none (by rw [List.length_range]; omega)] at h
    cases h
theorem wk_range {lo : Int} {n : Nat} : Wk (Itr lo n) (rangeD lo n) True (fun _ _ _ => True) where
  go := fun D0 o H i _ hi => by
    have e : (rangeD lo n).length = n := by unfold rangeD; rw [List.length_map, List.length_range]
    show i < n
    omega
  stop := fun D0 o H _ => by
    have e : (rangeD lo n).length = n := by unfold rangeD; rw [List.length_map, List.length_range]
    show n ≤ (rangeD lo n).length
    omega
  yld := fun D0 S σ o H i x H' d _ E hd y => by
    obtain ⟨rfl, rfl⟩ := y
    obtain ⟨_, rfl⟩ := rangeD_get hd
    exact ⟨Le.refl _, Val.of (.int _)⟩
  xe := fun _ _ _ _ _ _ _ _ _ => trivial
  fr := fun _ _ _ _ _ _ _ _ _ => trivial
def wIL (wl : WEx) : WLs := fun S A B => wl S (fun d c S1 => match d with
  | .list ds => A ds c S1
  | _ => False) B
def wIT (wl : WEx) : WLs := fun S A B => wl S (fun d c S1 => match d with
  | .tuple ds => A ds (c ∨ flats ds = true) S1
  | _ => False) B
theorem si_l {tg e : Expr} {we : WEx} (he : SE X W e we) : SI X W tg e (wIL we) := by
  obtain ⟨te, pe, se⟩ := he.ex
  refine ⟨_, pi_list pe, ?_⟩
  intro D0 S σ H o A B R E hw k kx
  refine se D0 S σ H o _ B _ E hw (fun d c S1 v H1 h1 E1 x1 V1 => ?_) kx
  split at h1
  · obtain ⟨a, vs, rfl, e, r, _⟩ := V1.items E1
    exact ⟨a, rfl, ⟨vs, SqL.at e⟩, k _ c S1 _ H1 _ h1 E1 x1 wk_list ⟨V1.1, V1.2⟩⟩
  · exact h1.elim
theorem si_t {tg e : Expr} {we : WEx} (he : SE X W e we) : SI X W tg e (wIT we) := by
  obtain ⟨te, pe, se⟩ := he.ex
  refine ⟨_, pi_tup pe, ?_⟩
  intro D0 S σ H o A B R E hw k kx
  refine se D0 S σ H o _ B _ E hw (fun d c S1 v H1 h1 E1 x1 V1 => ?_) kx
  split at h1
  · have V2 := V1.flat E1
    obtain ⟨a, vs, rfl, e, r, _⟩ := V1.titems E1
    exact ⟨a, rfl, ⟨vs, SqT.at e⟩, k _ _ S1 _ H1 _ h1 E1 x1 wk_tup ⟨V2.1, fun z => V2.2 (z.elim .inl fun f => .inr (by rw [flat]; exact f))⟩⟩
  · exact h1.elim
def wR1 (wa : WLs) : WLs := fun S A B => wa S (fun ds _ S1 => match ds with
  | [.int n] => -(2 ^ 62) ≤ n ∧ n < 2 ^ 62 ∧ A (rangeD 0 n.toNat) True S1
  | _ => False) B
def wR2 (wa : WLs) : WLs := fun S A B => wa S (fun ds _ S1 => match ds with
  | [.int i, .int j] => (-(2 ^ 62) ≤ i ∧ i < 2 ^ 62 ∧ -(2 ^ 62) ≤ j ∧ j < 2 ^ 62) ∧ A (rangeD i (j - i).toNat) True S1
  | _ => False) B
theorem si_r1 {tg a : Expr} {p : Pos} {wa : WLs} (hm : X.mg "range" = none) (ha : SA X W [a] wa) (hg : Gl X "range" := by rfl) (hs : starEach [a] X.env = [(false, eval a X.env)] := by rfl) : SI X W tg (.Call (.Name "range" p) [a] [] pos) (wR1 wa) := by
  obtain ⟨ta, pa, sa⟩ := ha.ex
  refine ⟨_, pi_range1 hg hm pa hs, ?_⟩
  intro D0 S σ H o A B R E hw k kx
  refine sa D0 S σ H o _ B _ E hw (fun ds c S1 vs H1 hl h1 E1 x1 V1 => ?_) kx
  split at h1
  · obtain ⟨h2, h3, h4⟩ := h1
    obtain ⟨V1, _⟩ := V1
    cases V1 with
    | cons a b =>
      cases a
      cases b
      exact ⟨_, rfl, h2, h3, k _ _ S1 _ H1 _ h4 E1 x1 wk_range trivial⟩
  · exact h1.elim
theorem si_r2 {tg a b : Expr} {p : Pos} {wa : WLs} (hm : X.mg "range" = none) (ha : SA X W [a, b] wa) (hg : Gl X "range" := by rfl) (hs : starEach [a, b] X.env = [(false, eval a X.env), (false, eval b X.env)] := by rfl) (hs2 : starEach [b] X.env = [(false, eval b X.env)] := by rfl) : SI X W tg (.Call (.Name "range" p) [a, b] [] pos) (wR2 wa) := by
  obtain ⟨ta, pa, sa⟩ := ha.ex
  refine ⟨_, pi_range2 hg hm pa hs hs2, ?_⟩
  intro D0 S σ H o A B R E hw k kx
  refine sa D0 S σ H o _ B _ E hw (fun ds c S1 vs H1 hl h1 E1 x1 V1 => ?_) kx
  split at h1
  · obtain ⟨h2, h4⟩ := h1
    obtain ⟨V1, _⟩ := V1
    cases V1 with
    | cons a b =>
      cases a
      cases b with
      | cons a b =>
        cases a
        cases b
        exact ⟨_, _, rfl, h2, k _ _ S1 _ H1 _ h4 E1 x1 wk_range trivial⟩
  · exact h1.elim

/-! ### comprehensions -/
def wipeS (S : Slots) : List Nat → Slots
  | [] => S
  | v :: vs => (wipeS S vs).set v .un
def noX : EK := fun _ _ => False
def lcL (wg : WTg) (wt : WTx) (we : WEx) (c : Prop) (S : Slots) : List PyData → List PyData → Prop → (List PyData → Prop → Prop) → Prop
  | [], acc, ca, K => K acc ca
  | d :: r, acc, ca, K => wg d c S fun S1 => wt S1 (fun b S2 => S2 = S1 ∧ if b = true then we S1 (fun e ce S3 => S3 = S1 ∧ acc.length < sizeLine ∧ lcL wg wt we c S r (acc ++ [e]) (ca ∧ (ce ∨ flat e = true)) K) noX else lcL wg wt we c S r acc ca K) noX
def notRng : Option Slot → Bool
  | some s => !isMut s
  | none => true
def wLc (wi : WLs) (wg : WTg) (wt : WTx) (we : WEx) (vs : List Nat) : WLs := fun S A B => wi S (fun ds c S1 => (vs.all fun j => notRng S1[j]?) = true ∧ lcL wg wt we c (wipeS S1 vs) ds [] True fun acc ca => A acc ca S1) B
theorem wipe_get {σ : St} {j : Nat} : ∀ {vs : List Nat}, j ∉ vs → (wipe σ vs)[j]? = σ[j]?
  | [], _ => rfl
  | v :: vs, h => by
    unfold wipe
    rw [List.getElem?_set_ne (fun z => h (by rw [z]; exact List.mem_cons_self))]
    exact wipe_get fun z => h (List.mem_cons_of_mem _ z)
theorem wipeS_get {S : Slots} {j : Nat} : ∀ {vs : List Nat}, j ∉ vs → (wipeS S vs)[j]? = S[j]?
  | [], _ => rfl
  | v :: vs, h => by
    unfold wipeS
    rw [List.getElem?_set_ne (fun z => h (by rw [z]; exact List.mem_cons_self))]
    exact wipeS_get fun z => h (List.mem_cons_of_mem _ z)
theorem wipe_in {σ : St} {j : Nat} : ∀ {vs : List Nat}, j ∈ vs → (wipe σ vs)[j]? = if j < σ.length then some none else none
  | v :: vs, h => by
    unfold wipe
    rw [List.getElem?_set, wipe_length]
    by_cases e : v = j
    · subst e
      rw [if_pos rfl]
    · rw [if_neg e]
      exact wipe_in (by
        rcases List.mem_cons.mp h with z | z
        · exact absurd z.symm e
        · exact z)
theorem wipe_ext {σ σ' : St} {vs : List Nat} (hl : σ'.length = σ.length) (h : ∀ j, j ∉ vs → σ'[j]? = σ[j]?) : wipe σ' vs = wipe σ vs := by
  refine List.ext_getElem? fun j => ?_
  by_cases hj : j ∈ vs
  · rw [wipe_in hj, wipe_in hj, hl]
  · rw [wipe_get hj, wipe_get hj]
    exact h j hj
theorem Env.un {D0 : Addr → Bool} {S : Slots} {σ : St} {C : Hp} {o : Ow} (E : Env D0 S σ C o) (i : Nat) : Env D0 (S.set i .un) (σ.set i none) C o := by
  refine ⟨by rw [List.length_set, List.length_set]; exact E.len, E.live, E.dead, fun j s h => ?_, E.nf⟩
  by_cases e : i = j
  · subst e
    have hi : i < S.length := by
      obtain ⟨h1, _⟩ := List.getElem?_eq_some_iff.mp h
      rw [List.length_set] at h1
      exact h1
    rw [List.getElem?_set_self hi] at h
    cases h
    trivial
  · rw [List.getElem?_set_ne e] at h ⊢
    exact E.sl j s h
theorem Env.wipe {D0 : Addr → Bool} {S : Slots} {σ : St} {C : Hp} {o : Ow} (E : Env D0 S σ C o) : ∀ vs : List Nat, Env D0 (wipeS S vs) (L2.wipe σ vs) C o
  | [] => E
  | v :: vs => (E.wipe vs).un v
/-- the frame as it stood ahead, its sources of draws as they stand now -/
theorem Env.back {D0 : Addr → Bool} {S S1 : Slots} {σ σ1 : St} {H H' : Hp} {o : Ow} (E : Env D0 S σ H o) (E1 : Env D0 S1 σ1 H' o) (x : XE o H H') (hr : ∀ (j : Nat) (s : Slot), S[j]? = some s → isMut s = true → S1[j]? = some s ∧ σ1[j]? = σ[j]?) : Env D0 S σ H' o := by
  refine ⟨E.len, E1.live, E1.dead, fun i s e => ?_, E1.nf⟩
  have q := E.sl i s e
  have cx : ∀ a u, mutO (o a) = false → co H a = some u → co H' a = some u := fun a u hm h => by
    unfold co at h ⊢
    cases z : H a with
    | none => rw [z] at h; cases h
    | some y => rw [x a y hm z]; rw [z] at h; exact h
  cases hm : isMut s with
  | true =>
    obtain ⟨h1, h2⟩ := hr i s e hm
    have q1 := E1.sl i _ h1
    rw [h2] at q1
    exact q1
  | false =>
    cases s with
    | un => trivial
    | im d => obtain ⟨v, h1, h2⟩ := q; exact ⟨v, h1, h2.mono x.vw⟩
    | ol xs => obtain ⟨a, vs, h1, h2, h3, h4⟩ := q; exact ⟨a, vs, h1, h2, cx _ _ (by rw [h2]; rfl) h3, h4.mono x.vw⟩
    | od es =>
      obtain ⟨a, u, h1, h2, h3, h4⟩ := q
      exact ⟨a, u, h1, h2, cx _ _ (by rw [h2]; rfl) h3, h4.mono x.vw⟩
    | ex a dd fs => exact ⟨q.1, fun p hp => x.vw _ _ (q.2 p hp)⟩
    | rng a c => cases hm
    | ob a dx c fs => cases hm
/-- the heap less one object -/
def rm (H : Hp) (D : Addr) : Hp := fun a => if a = D then none else H a
theorem rm_le {H : Hp} {D : Addr} : Le (rm H D) H := fun a u h => by
  unfold rm at h
  split at h
  · cases h
  · exact h
theorem rm_at {H : Hp} {D : Addr} : rm H D D = none := if_pos rfl
theorem rm_ne {H : Hp} {D a : Addr} (h : a ≠ D) : rm H D a = H a := if_neg h
theorem upd_rm {H : Hp} {D : Addr} {u : HO} (h : H D = some u) : upd (rm H D) D u = H := by
  funext a
  unfold upd rm
  by_cases e : a = D
  · rw [if_pos e, e, h]
  · rw [if_neg e, if_neg e]
/-- the object at D is hidden besides -/
def plus (D0 : Addr → Bool) (D : Addr) : Addr → Bool := fun a => D0 a || decide (a = D)
theorem plus_ne {D0 : Addr → Bool} {D a : Addr} (h : a ≠ D) : plus D0 D a = D0 a := by unfold plus; rw [decide_eq_false h, Bool.or_false]
theorem plus_at {D0 : Addr → Bool} {D : Addr} : plus D0 D D = true := by unfold plus; rw [decide_eq_true rfl, Bool.or_true]
theorem vt_plus {D0 : Addr → Bool} {o : Ow} {H : Hp} {D : Addr} : vt (plus D0 D) o (co H) = vt D0 o (co (rm H D)) := by
  funext a
  unfold vt
  by_cases e : a = D
  · subst e
    rw [plus_at, Bool.true_or, if_pos rfl]
    split
    · rfl
    · exact (co_none.mpr rm_at).symm
  · rw [plus_ne e]
    have : co (rm H D) a = co H a := by unfold co; rw [rm_ne e]
    rw [this]
theorem vw_plus {D0 : Addr → Bool} {o : Ow} {H : Hp} {D : Addr} : vw (plus D0 D) o (co H) = vw D0 o (co (rm H D)) := by
  funext a
  unfold vw
  by_cases e : a = D
  · subst e
    rw [plus_at, Bool.true_or, if_pos rfl]
    split
    · rfl
    · exact (co_none.mpr rm_at).symm
  · rw [plus_ne e]
    have : co (rm H D) a = co H a := by unfold co; rw [rm_ne e]
    rw [this]
theorem SlotOk.hide {D0 : Addr → Bool} {o : Ow} {H : Hp} {D : Addr} {i : Nat} {x : Option (Option V)} {s : Slot} (hD : o D = none) (h : SlotOk D0 (co (rm H D)) o i x s) : SlotOk (plus D0 D) (co H) o i x s := by
  have le : Le (co (rm H D)) (co H) := (rm_le (H := H) (D := D)).co
  exact h.move (by rw [vw_plus]; exact Le.refl _) fun a b u h1 h2 => ⟨h1, le _ _ h2⟩
theorem SlotOk.show_ {D0 : Addr → Bool} {o : Ow} {H : Hp} {D : Addr} {i : Nat} {x : Option (Option V)} {s : Slot} (hD : o D = none) (h : SlotOk (plus D0 D) (co H) o i x s) : SlotOk D0 (co (rm H D)) o i x s := by
  have ne : ∀ {a : Addr} {p : Nat × Bool}, o a = some p → a ≠ D := fun {a p} e z => by rw [z, hD] at e; cases e
  have at_ : ∀ {a : Addr} {u : HO}, a ≠ D → co H a = some u → co (rm H D) a = some u := fun {a u} n e => by
    have : co (rm H D) a = co H a := by unfold co; rw [rm_ne n]
    rw [this]; exact e
  exact h.move (by rw [vw_plus]; exact Le.refl _) fun a b u h1 h2 => ⟨h1, at_ (ne h1) h2⟩
/-- D, an object of our own making, is hidden; is shown no more -/
theorem Env.hide {D0 : Addr → Bool} {S : Slots} {σ : St} {H : Hp} {o : Ow} {D : Addr} {u : HO} (E : Env D0 S σ (rm H D) o) (h : H D = some u) (hu : isTup (core u) = false) : Env (plus D0 D) S σ H o := by
  have hD := (E.new (p := D) rm_at)
  have le : Le (co (rm H D)) (co H) := (rm_le (H := H) (D := D)).co
  refine ⟨E.len, fun a p e => ?_, fun a e => ?_, fun i s e => (E.sl i s e).hide hD.2, fun a p u e h1 => E.nf a p u e (by rw [rm_ne (fun z => by rw [z, hD.2] at e; cases e)]; exact h1)⟩
  · obtain ⟨h1, w', h2, h3⟩ := E.live a p e
    have ne : a ≠ D := fun z => by rw [z, hD.2] at e; cases e
    exact ⟨by rw [plus_ne ne]; exact h1, w', le _ _ h2, h3⟩
  · by_cases z : a = D
    · subst z
      exact ⟨_, co_of h, hu⟩
    · rw [plus_ne z] at e
      obtain ⟨w', h2, h3⟩ := E.dead a e
      exact ⟨w', le _ _ h2, h3⟩
theorem Env.show_ {D0 : Addr → Bool} {S : Slots} {σ : St} {H : Hp} {o : Ow} {D : Addr} (hD0 : D0 D = false) (hD : o D = none) (E : Env (plus D0 D) S σ H o) : Env D0 S σ (rm H D) o := by
  have at_ : ∀ {a : Addr} {u : HO}, a ≠ D → co H a = some u → co (rm H D) a = some u := fun {a u} n e => by
    have : co (rm H D) a = co H a := by unfold co; rw [rm_ne n]
    rw [this]; exact e
  refine ⟨E.len, fun a p e => ?_, fun a e => ?_, fun i s e => (E.sl i s e).show_ hD, fun a p u e h1 => E.nf a p u e (rm_le _ _ h1)⟩
  · obtain ⟨h1, w', h2, h3⟩ := E.live a p e
    have ne : a ≠ D := fun z => by rw [z, hD] at e; cases e
    exact ⟨by rw [plus_ne ne] at h1; exact h1, w', at_ ne h2, h3⟩
  · have ne : a ≠ D := fun z => by rw [z, hD0] at e; cases e
    obtain ⟨w', h2, h3⟩ := E.dead a (by rw [plus_ne ne]; exact e)
    exact ⟨w', at_ ne h2, h3⟩
end
end Pu

namespace Pu
open PySem L2

/-! ### the weakest readings -/
def tW (W : WM) (w : WEx) : TE := fun σ H Q => ∃ (D0 : Addr → Bool) (S : Slots) (o : Ow) (A : PyData → Prop → Slots → Prop) (B : EK), Env D0 S σ H o ∧ w S A B ∧
  (∀ d c S' v H', A d c S' → Env D0 S' σ H' o → XE o H H' → Val D0 o H' v d c → Q v H') ∧ Xw W D0 σ o H B
theorem tW_snd {W : WM} {w : WEx} : Snd W (tW W w) w := fun D0 S σ H o A B Q E hw k kx => ⟨D0, S, o, A, B, E, hw, k, kx⟩
theorem SE.pe {X : Cx} {W : WM} {e : Expr} {w : WEx} (h : SE X W e w) : PE X e (tW W w) := by
  obtain ⟨t, p, s⟩ := h.ex
  exact ⟨fun pins sh σ H Q I ⟨D0, S, o, A, B, E, hw, k, kx⟩ => p.run pins sh σ H Q I (s D0 S σ H o A B Q E hw k kx)⟩
def tTW (W : WM) (w : WTx) : TT := fun σ H Q => ∃ (D0 : Addr → Bool) (S : Slots) (o : Ow) (A : Bool → Slots → Prop) (B : EK), Env D0 S σ H o ∧ w S A B ∧
  (∀ b S' H', A b S' → Env D0 S' σ H' o → XE o H H' → Q b H') ∧ Xw W D0 σ o H B
theorem tTW_snd {W : WM} {w : WTx} : SndT W (tTW W w) w := fun D0 S σ H o A B Q E hw k kx => ⟨D0, S, o, A, B, E, hw, k, kx⟩
theorem ST.pt {X : Cx} {W : WM} {e : Expr} {w : WTx} (h : ST X W e w) : PT X e (tTW W w) := by
  obtain ⟨t, p, s⟩ := h.ex
  exact ⟨fun pins sh σ H Q I ⟨D0, S, o, A, B, E, hw, k, kx⟩ => p.run pins sh σ H Q I (s D0 S σ H o A B Q E hw k kx)⟩
structure STs (X : Cx) (W : WM) (es : List Expr) (w : WTx) : Prop where
  ex : ∃ t, PTs X es t ∧ SndT W t w
theorem STs.pt {X : Cx} {W : WM} {es : List Expr} {w : WTx} (h : STs X W es w) : PTs X es (tTW W w) := by
  obtain ⟨t, p, s⟩ := h.ex
  exact ⟨fun pins sh σ H Q I ⟨D0, S, o, A, B, E, hw, k, kx⟩ => p.run pins sh σ H Q I (s D0 S σ H o A B Q E hw k kx)⟩
def wYes : WTx := fun S A _ => A true S
theorem sts_nil {X : Cx} {W : WM} : STs X W [] wYes := ⟨_, pts_nil, fun D0 S σ H o A B Q E hw k kx => k _ _ H hw E (XE.refl o H)⟩
theorem sts_one {X : Cx} {W : WM} {e : Expr} {w : WTx} (h : ST X W e w) : STs X W [e] w := by
  obtain ⟨t, p, s⟩ := h.ex
  exact ⟨_, pts_one p, s⟩
def gW (L : List Nat) (w : WTg) : TG := fun v σ H Q => ∃ (D0 : Addr → Bool) (S : Slots) (o : Ow) (d : PyData) (c : Prop) (K : Slots → Prop), Env D0 S σ H o ∧ Val D0 o H v d c ∧ w d c S K ∧
  (∀ S' σ', K S' → Env D0 S' σ' H o → Kept L S σ S' σ' → Q σ' H)
theorem gW_snd {L : List Nat} {w : WTg} : SndG L (gW L w) w := fun D0 S σ H o v d c K Q E V hw k => ⟨D0, S, o, d, c, K, E, V, hw, k⟩
theorem SG.pg {X : Cx} {tg : Expr} {L : List Nat} {w : WTg} (h : SG X tg L w) : PG X tg (gW L w) := by
  obtain ⟨t, p, s⟩ := h.ex
  exact ⟨fun pins sh σ H v u Q I r ⟨D0, S, o, d, c, K, E, V, hw, k⟩ => p.run pins sh σ H v u Q I r (s D0 S σ H o v d c K Q E V hw k)⟩

section
variable {X : Cx} {W : WM} {k : Nat} {pos : Pos}
abbrev WN (mg : Str → Option Value) : WM := ⟨mg, fun _ _ _ _ => False⟩
theorem Xw.no {mg : Str → Option Value} {D0 : Addr → Bool} {σ : St} {o : Ow} {H : Hp} : Xw (WN mg) D0 σ o H noX := fun _ _ _ _ _ h => h.elim
/-- within a comprehension's block nothing is raised -/
theorem At.blk (a : At X W k) (s : Shared) (H : Hp) (scope : Scope) (env : PySem.Env) (fp : List Addr) : At (X.blk s H scope env fp) (WN X.mg) k where
  room := a.room
  calm := a.calm
  tx := takes0
  mq := rfl
  nd := a.nd
  po := PassesOwn.never
theorem rm_upd {H : Hp} {D : Addr} {u : HO} : rm (upd H D u) D = rm H D := by
  funext a
  unfold rm upd
  by_cases e : a = D
  · rw [if_pos e, if_pos e]
  · rw [if_neg e, if_neg e, if_neg e]
theorem rm_none {H : Hp} {D : Addr} (h : H D = none) : rm H D = H := by
  funext a
  unfold rm
  by_cases e : a = D
  · rw [if_pos e, e, h]
  · rw [if_neg e]
theorem XE.rm {o : Ow} {H H' : Hp} {D : Addr} (h : XE o H H') : XE o (rm H D) (rm H' D) := fun a u m e => by
  unfold Pu.rm at e ⊢
  split at e
  · cases e
  · rename_i n
    rw [if_neg n]
    exact h a u m e
theorem lc_core {mg : Str → Option Value} {L vs : List Nat} {wg : WTg} {wt : WTx} {we : WEx} {J : It} {ds : List PyData} {c : Prop} {Z : (Addr → Bool) → Ow → Hp → Prop} (hL : ∀ j ∈ L, j ∈ vs) (wk : Wk J ds c Z)
    {D0 : Addr → Bool} {S1 : Slots} {σ : St} {H1 : Hp} {o : Ow} {K : List PyData → Prop → Prop} {Q : VK} (hnr : (vs.all fun j => notRng S1[j]?) = true) (z1 : Z D0 o H1) (E1 : Env D0 S1 σ H1 o) (h1 : lcL wg wt we c (wipeS S1 vs) ds [] True K)
    (kk : ∀ (acc : List PyData) (ca : Prop) (us : List V) (D : Addr) (H2 : Hp), K acc ca → Env D0 S1 σ H2 o → XE o H1 H2 → H2 D = none → Vals' D0 o H2 us acc ca → Q (.ref D) (upd H2 D (.lst us))) :
    ∀ D, H1 D = none → ∃ W : Nat → Nat → Hp → Prop, (∃ m, W 0 m (upd H1 D (.lst []))) ∧ ∀ i m H, W i m H →
      (J.stop i H ∧ Q (.ref D) H) ∨ (J.go i H ∧ ∃ Nx : Hp → Prop, (∀ H', Nx H' → ∃ m', m' < m ∧ W (i + 1) m' H') ∧ ∀ x H', J.yld i H x H' → gW L wg x (L2.wipe σ vs) H' fun σ2 H2 => L2.wipe σ2 vs = L2.wipe σ vs ∧ tTW (WN mg) wt σ2 H2 fun b H3 =>
        if b = true then tW (WN mg) we σ2 H3 fun y H4 => ∃ acc, H4 D = some (.lst acc) ∧ acc.length < sizeLine ∧ Nx (upd H4 D (.lst (acc ++ [y]))) else Nx H3) := by
  intro D hD
  have oD := (E1.new hD).2
  have dD := (E1.new hD).1
  have upW : ∀ {H' : Hp}, Z D0 o (rm H' D) → Z (plus D0 D) o H' := fun {H'} z => wk.xe _ _ _ _ _ z (fun a od u _ e => rm_le _ _ e) (by rw [vt_plus]; exact Le.refl _) (by rw [vw_plus]; exact Le.refl _)
  refine ⟨fun i m H' => m = ds.length - i ∧ i ≤ ds.length ∧ ∃ (acc : List PyData) (ca : Prop) (us : List V), H' D = some (.lst us) ∧ Vals' D0 o (rm H' D) us acc ca ∧ lcL wg wt we c (wipeS S1 vs) (ds.drop i) acc ca K ∧ Env D0 S1 σ (rm H' D) o ∧ XE o H1 (rm H' D) ∧ Z D0 o (rm H' D),
    ⟨ds.length, by simp, Nat.zero_le _, [], True, [], upd_same, ⟨.nil, fun _ => .nil⟩, h1, by rw [rm_upd, rm_none hD]; exact E1, by rw [rm_upd, rm_none hD]; exact XE.refl _ _, by rw [rm_upd, rm_none hD]; exact z1⟩, ?_⟩
  rintro i m H2 ⟨rfl, hi, acc, ca, us, eD, Vv, hl, E2, x2, z2⟩
  have hide2 : Env (plus D0 D) S1 σ H2 o := E2.hide eD rfl
  by_cases hlt : i < ds.length
  · right
    refine ⟨wk.go _ _ _ _ (upW z2) hlt, fun H' => i + 1 ≤ ds.length ∧ ∃ (acc : List PyData) (ca : Prop) (us : List V), H' D = some (.lst us) ∧ Vals' D0 o (rm H' D) us acc ca ∧ lcL wg wt we c (wipeS S1 vs) (ds.drop (i + 1)) acc ca K ∧ Env D0 S1 σ (rm H' D) o ∧ XE o H1 (rm H' D) ∧ Z D0 o (rm H' D),
      fun H' hN => ⟨ds.length - (i + 1), by omega, rfl, hN⟩, fun x H3 hy => ?_⟩
    have hd : ds[i]? = some ds[i] := List.getElem?_eq_getElem hlt
    obtain ⟨le3, Vx⟩ := wk.yld (plus D0 D) S1 σ o H2 i x H3 ds[i] (upW z2) hide2 hd hy
    have E3 : Env (plus D0 D) S1 σ H3 o := hide2.xe le3
    rw [List.drop_eq_getElem_cons hlt] at hl
    unfold lcL at hl
    refine gW_snd (plus D0 D) _ _ H3 o x ds[i] c _ _ (E3.wipe vs) Vx hl fun S4 σ4 h4 E4 k4 => ?_
    have outL : ∀ j, j ∉ vs → j ∉ L := fun j hj z => hj (hL j z)
    refine ⟨by
      have e : L2.wipe σ4 vs = L2.wipe (L2.wipe σ vs) vs := wipe_ext k4.ln fun j hj => k4.st j (outL j hj)
      rw [e]
      exact wipe_ext (wipe_length _ _) fun j hj => wipe_get hj, ?_⟩
    -- what is to hold behind a turn
    have fin : ∀ {S5 : Slots} {H5 : Hp}, Env (plus D0 D) S5 σ4 H5 o → S5 = S4 → XE o H3 H5 → H5 D = some (.lst us) ∧ XE o (rm H2 D) (rm H5 D) ∧ Env D0 S1 σ (rm H5 D) o ∧ XE o H1 (rm H5 D) ∧ Z D0 o (rm H5 D) := by
      intro S5 H5 E5 e5 x5
      subst e5
      have x25 : XE o H2 H5 := (XE.of le3).trans x5
      have xr := x25.rm (D := D)
      refine ⟨x25 _ _ (by rw [oD]; rfl) eD, xr, Env.show_ dD oD (Env.back hide2 E5 x25 fun j s hj hm => ?_), x2.trans xr, wk.xe _ _ _ _ _ z2 xr.lk xr.vt xr.vw⟩
      have hj' : j ∉ vs := fun z => by
        have q := List.all_eq_true.mp hnr j z
        rw [hj] at q
        simp only [notRng, hm] at q
        cases q
      exact ⟨(k4.sl j (outL j hj')).trans ((wipeS_get hj').trans hj), (k4.st j (outL j hj')).trans (wipe_get hj')⟩
    refine tTW_snd (plus D0 D) S4 σ4 H3 o _ noX _ E4 h4 (fun b S5 H5 h5 E5 x5 => ?_) Xw.no
    obtain ⟨e5, h5⟩ := h5
    cases b with
    | true =>
      rw [if_pos rfl] at h5 ⊢
      rw [← e5] at h5
      refine tW_snd (plus D0 D) S5 σ4 H5 o _ noX _ E5 h5 (fun d ce S6 v H6 h6 E6 x6 V6 => ?_) Xw.no
      obtain ⟨e6, hlen, h6⟩ := h6
      obtain ⟨f1, f2, f3, f4, f5⟩ := fin E6 (e6.trans e5) (x5.trans x6)
      have hle : us.length < sizeLine := by rw [Vv.1.length]; exact hlen
      refine ⟨us, f1, hle, hlt, acc ++ [d], _, us ++ [v], upd_same, ?_, h6, by rw [rm_upd]; exact f3, by rw [rm_upd]; exact f4, by rw [rm_upd]; exact f5⟩
      rw [rm_upd]
      have V6' := V6.flat E6
      refine ⟨(Vv.1.mono f2.vt).append (.cons ?_ .nil), fun hc => ((Vv.2 hc.1).mono f2.vw).append (.cons ?_ .nil)⟩
      · have q := V6'.1
        rw [vt_plus] at q
        exact q
      · have q := V6'.2 hc.2
        rw [vw_plus] at q
        exact q
    | false =>
      rw [if_neg Bool.false_ne_true] at h5 ⊢
      obtain ⟨f1, f2, f3, f4, f5⟩ := fin E5 e5 x5
      exact ⟨hlt, acc, ca, us, f1, ⟨Vv.1.mono f2.vt, fun hc => (Vv.2 hc).mono f2.vw⟩, h5, f3, f4, f5⟩
  · left
    have ei : i = ds.length := by omega
    subst ei
    rw [List.drop_length] at hl
    refine ⟨wk.stop _ _ _ (upW z2), ?_⟩
    have q := kk acc ca us D (rm H2 D) hl E2 x2 rm_at Vv
    rw [upd_rm eD] at q
    exact q
theorem snd_lc {mg : Str → Option Value} {twi : TI} {L vs : List Nat} {wi : WLs} {wg : WTg} {wt : WTx} {we : WEx} (swi : SndI W twi wi) (hL : ∀ j ∈ L, j ∈ vs) : SndO W (tLc twi (gW L wg) (tTW (WN mg) wt) (tW (WN mg) we) vs) (wLc wi wg wt we vs) := by
  intro D0 S σ H o A B Q E hw kk kx
  refine swi D0 S σ H o _ B _ E hw (fun ds c S1 J H1 Z h1 E1 x1 wk z1 => ?_) kx
  obtain ⟨hnr, h1⟩ := h1
  exact lc_core hL wk hnr z1 E1 h1 fun acc ca us D H2 hK E2 x2 hD V => kk acc ca S1 us D H2 hK E2 (x1.trans x2) hD V
theorem so_lc {elt tg iter : Expr} {ifs : List Expr} {scope : Scope} {own : List (Str × Nat)} {L : List Nat} {wi : WLs} {wg : WTg} {wt : WTx} {we : WEx} (a : At X W k) (hi : SI X W tg iter wi) (ok : blkC X.N X.env.scope scope own = true)
    (hg : ∀ (s : Shared) (H : Hp) (C : Addr) (cl : List (Str × Addr)) (fp : List Addr), SG (X.blk s H scope (compEnvC scope cl C X.env) fp) tg L wg)
    (ht : ∀ (s : Shared) (H : Hp) (C : Addr) (cl : List (Str × Addr)) (fp : List Addr), At (X.blk s H scope (compEnvC scope cl C X.env) fp) (WN X.mg) k → STs (X.blk s H scope (compEnvC scope cl C X.env) fp) (WN X.mg) ifs wt)
    (he : ∀ (s : Shared) (H : Hp) (C : Addr) (cl : List (Str × Addr)) (fp : List Addr), At (X.blk s H scope (compEnvC scope cl C X.env) fp) (WN X.mg) k → SE (X.blk s H scope (compEnvC scope cl C X.env) fp) (WN X.mg) elt we)
    (hL : ∀ j ∈ L, j ∈ own.map (·.2)) (hs : ∀ x, foldedSetIterable iter X.env x = pure x := by intro _; rfl) : SO X W (.ListComp elt [⟨tg, iter, ifs, 0⟩] scope pos) (wLc wi wg wt we (own.map (·.2))) := by
  obtain ⟨twi, pwi, swi⟩ := hi.ex
  refine ⟨_, pe_lc a.calm a.nd pwi (blkOk_by ok) (fun s H C cl fp => (hg s H C cl fp).pg) (fun s H C cl fp => (ht s H C cl fp (a.blk ..)).pt) (fun s H C cl fp => (he s H C cl fp (a.blk ..)).pe) hs, snd_lc swi hL⟩
end
end Pu

namespace Pu
open PySem L2

/-! ### statements -/
structure En where
  nx : Slots → Prop
  rt : PyData → Prop → Slots → Prop
  bk : Slots → Prop
  ct : Slots → Prop
  ex : EK
abbrev WS := Slots → En → Prop
structure Goes (W : WM) (D0 : Addr → Bool) (o : Ow) (H : Hp) (P : En) (D : Ends) : Prop where
  nx : ∀ S' σ' H' o', P.nx S' → Env D0 S' σ' H' o' → Fr o H o' H' → D.nx σ' H'
  bk : ∀ S' σ' H' o', P.bk S' → Env D0 S' σ' H' o' → Fr o H o' H' → D.bk σ' H'
  ct : ∀ S' σ' H' o', P.ct S' → Env D0 S' σ' H' o' → Fr o H o' H' → D.ct σ' H'
  rt : ∀ d c S' v σ' H' o', P.rt d c S' → Env D0 S' σ' H' o' → Fr o H o' H' → Val D0 o' H' v d c → D.rt v H'
  ex : ∀ x S' σ' cls dd H' o', P.ex x S' → Env D0 S' σ' H' o' → Fr o H o' H' → XOk W.mg H' x cls dd → W.w cls dd σ' H'
def SndS (W : WM) (t : TS) (w : WS) : Prop := ∀ (D0 : Addr → Bool) (S : Slots) (σ : St) (H : Hp) (o : Ow) (P : En) (D : Ends), Env D0 S σ H o → w S P → Goes W D0 o H P D → t D σ H
structure SS (X : Cx) (W : WM) (st : Stmt) (w : WS) : Prop where
  ex : ∃ t, PS X st t ∧ SndS W t w
structure SSs (X : Cx) (W : WM) (st : List Stmt) (w : WS) : Prop where
  ex : ∃ t, PSs X st t ∧ SndS W t w
theorem Goes.on {W : WM} {D0 : Addr → Bool} {o o1 : Ow} {H H1 : Hp} {P : En} {D : Ends} (g : Goes W D0 o H P D) (f : Fr o H o1 H1) : Goes W D0 o1 H1 P D :=
  ⟨fun a b c d e E q => g.nx a b c d e E (f.trans q), fun a b c d e E q => g.bk a b c d e E (f.trans q), fun a b c d e E q => g.ct a b c d e E (f.trans q),
    fun a b c d e f' g' h E q => g.rt a b c d e f' g' h E (f.trans q), fun a b c d e f' g' h E q => g.ex a b c d e f' g' h E (f.trans q)⟩
theorem Goes.xw {W : WM} {D0 : Addr → Bool} {o : Ow} {H : Hp} {P : En} {D : Ends} (g : Goes W D0 o H P D) {σ : St} : Xw W D0 σ o H P.ex :=
  fun x S' cls dd H' h E q ok => g.ex x S' σ cls dd H' o h E q.fr ok
theorem Fr.vw {D0 : Addr → Bool} {o o' : Ow} {H H' : Hp} (f : Fr o H o' H') : Le (vw D0 o (co H)) (vw D0 o' (co H')) := fun a u e => by
  unfold Pu.vw at e ⊢
  split at e
  · cases e
  · rename_i hn
    have hd : D0 a = false := by
      cases q : D0 a with
      | false => rfl
      | true => exact absurd (by rw [q, Bool.true_or]) hn
    have ho : o a = none := by
      cases q : o a with
      | none => rfl
      | some p => exact absurd (by rw [q]; simp) hn
    unfold co at e ⊢
    cases q : H a with
    | none => rw [q] at e; cases e
    | some z =>
      obtain ⟨h1, h2⟩ := f a z ho q
      rw [hd, h2, if_neg (by simp), h1]
      rw [q] at e
      exact e

section
variable {X : Cx} {W : WM} {k : Nat} {pos : Pos}
def wSkip : WS := fun S P => P.nx S
def wSeq (w1 w2 : WS) : WS := fun S P => w1 S { P with nx := fun S1 => w2 S1 P }
theorem sss_nil : SSs X W [] wSkip := ⟨_, pss_nil, fun D0 S σ H o P D E hw g => g.nx S σ H o hw E (Fr.refl _ _)⟩
theorem sss_one {st : Stmt} {w : WS} (h : SS X W st w) : SSs X W [st] w := by
  obtain ⟨t, p, s⟩ := h.ex
  exact ⟨_, pss_one p, s⟩
theorem sss_cons {st : Stmt} {rest : List Stmt} {w1 w2 : WS} (h1 : SS X W st w1) (h2 : SSs X W rest w2) : SSs X W (st :: rest) (wSeq w1 w2) := by
  obtain ⟨t1, p1, s1⟩ := h1.ex
  obtain ⟨t2, p2, s2⟩ := h2.ex
  refine ⟨_, pss_cons p1 p2, ?_⟩
  intro D0 S σ H o P D E hw g
  refine s1 D0 S σ H o _ _ E hw ⟨fun S' σ' H' o' h E' f => ?_, g.bk, g.ct, g.rt, g.ex⟩
  exact s2 D0 S' σ' H' o' P D E' h (g.on f)
theorem ss_pass : SS X W (.Pass pos) wSkip := ⟨_, ps_pass, fun D0 S σ H o P D E hw g => g.nx S σ H o hw E (Fr.refl _ _)⟩

/-! names -/
def wSet (i : Nat) (we : WEx) : WS := fun S P => we S (fun d c S1 => (c ∨ flat d = true) ∧ P.nx (S1.set i (.im d))) P.ex
theorem ss_set (i : Nat) {x : Str} {e : Expr} {p : Pos} {we : WEx} (a : At X W k) (he : SE X W e we) (hi : X.N[i]? = some x := by rfl) (hx : Loc X.env.scope x := by first | exact Or.inl rfl | exact Or.inr rfl) (hs : swapsWith e (some (.Name x p)) pos.line X.env = pure false := by rfl) (hf : X.fn x = true ∨ X.env.scope.names.lookup x = some .local := by first | exact .inl rfl | exact .inr rfl) :
    SS X W (.Assign [.Name x p] e pos) (wSet i we) := by
  obtain ⟨te, pe, se⟩ := he.ex
  refine ⟨_, ps_set a.nd hi hx pe hs hf, ?_⟩
  intro D0 S σ H o P D E hw g
  refine se D0 S σ H o _ P.ex _ E hw (fun d c S1 v H1 h1 E1 x1 V1 => ?_) g.xw
  exact g.nx _ _ _ _ h1.2 (E1.put i ((V1.flat E1).2 h1.1)) x1.fr
/-- slot i is this frame's own list -/
def ow1 (o : Ow) (p : Addr) (i : Nat) : Ow := fun a => if a = p then some (i, false) else o a
theorem vw_ow {D0 : Addr → Bool} {o : Ow} {H : Hp} {p : Addr} {i : Nat} {u : HO} (h : H p = none) : vw D0 (ow1 o p i) (co (upd H p u)) = vw D0 o (co H) := by
  funext a
  unfold vw ow1
  by_cases e : a = p
  · subst e
    rw [if_pos rfl]
    show (if (D0 a || true) = true then none else _) = _
    rw [Bool.or_true, if_pos rfl]
    split
    · rfl
    · exact (co_none.mpr h).symm
  · rw [if_neg e, co_upd, upd_ne e]
theorem nf_own {D0 : Addr → Bool} {S : Slots} {σ : St} {H : Hp} {o : Ow} {p : Addr} {i : Nat} {w : HO} (E : Env D0 S σ H o) (h : H p = none) (hw : isFrz w = false) : ∀ a q u, ow1 o p i a = some q → upd H p w a = some u → isFrz u = false := fun a q u e h1 => by
  by_cases z : a = p
  · subst z
    rw [upd_same] at h1
    cases h1
    exact hw
  · rw [upd_ne z] at h1
    have e' : o a = some q := by
      have : ow1 o p i a = o a := if_neg z
      rw [this] at e; exact e
    exact E.nf a q u e' h1
theorem Env.own {D0 : Addr → Bool} {S : Slots} {σ : St} {H : Hp} {o : Ow} {p : Addr} {vs : List V} {ds : List PyData} (E : Env D0 S σ H o) (i : Nat) (h : H p = none) (r : RpAll (vw D0 o (co H)) vs ds) :
    Env D0 (S.set i (.ol ds)) (σ.set i (some (.ref p))) (upd H p (.lst vs)) (ow1 o p i) := by
  have nw := E.new h
  have le : Le (co H) (co (upd H p (.lst vs))) := (Le.new h).co
  have oe : ∀ {a : Addr}, a ≠ p → ow1 o p i a = o a := fun {a} n => if_neg n
  have ne : ∀ {a : Addr} {q : Nat × Bool}, o a = some q → a ≠ p := fun {a q} e z => by rw [z, nw.2] at e; cases e
  refine ⟨by rw [List.length_set, List.length_set]; exact E.len, fun a q e => ?_, fun a e => ?_, fun j s e => ?_, nf_own E h rfl⟩
  · by_cases z : a = p
    · subst z
      exact ⟨nw.1, _, co_of upd_same, rfl⟩
    · rw [oe z] at e
      obtain ⟨h1, u, h2, h3⟩ := E.live a q e
      exact ⟨h1, u, le _ _ h2, h3⟩
  · obtain ⟨u, h2, h3⟩ := E.dead a e
    exact ⟨u, le _ _ h2, h3⟩
  · by_cases z : i = j
    · subst z
      have hi : i < S.length := by
        obtain ⟨h1, _⟩ := List.getElem?_eq_some_iff.mp e
        rw [List.length_set] at h1
        exact h1
      rw [List.getElem?_set_self hi] at e
      cases e
      exact ⟨p, vs, by rw [List.getElem?_set_self (by rw [E.len]; exact hi)], if_pos rfl, co_of upd_same, by rw [vw_ow h]; exact r⟩
    · rw [List.getElem?_set_ne z] at e ⊢
      exact (E.sl j s e).move (by rw [vw_ow h]; exact Le.refl _) fun a b u h1 h2 => ⟨by rw [oe (ne h1)]; exact h1, le _ _ h2⟩
theorem fr_own {D0 : Addr → Bool} {S : Slots} {σ : St} {H : Hp} {o : Ow} {p : Addr} {i : Nat} {u : HO} (h : H p = none) : Fr o H (ow1 o p i) (upd H p u) := fun a x n e => by
  have ne := ne_of_none e h
  exact ⟨by rw [upd_ne ne]; exact e, by show (if a = p then _ else _) = _; rw [if_neg ne]; exact n⟩
def wOwn (i : Nat) (wo : WLs) : WS := fun S P => wo S (fun ds c S1 => (c ∨ flats ds = true) ∧ P.nx (S1.set i (.ol ds))) P.ex
theorem Vals'.clean {D0 : Addr → Bool} {S : Slots} {σ : St} {H : Hp} {o : Ow} {vs : List V} {ds : List PyData} {c : Prop} (E : Env D0 S σ H o) (h : Vals' D0 o H vs ds c) (hc : c ∨ flats ds = true) : RpAll (Pu.vw D0 o (co H)) vs ds :=
  hc.elim h.2 fun f => h.1.flat E.vtw f
theorem ss_own (i : Nat) {x : Str} {e : Expr} {p : Pos} {wo : WLs} (a : At X W k) (he : SO X W e wo) (hi : X.N[i]? = some x := by rfl) (hx : Loc X.env.scope x := by first | exact Or.inl rfl | exact Or.inr rfl) (hs : swapsWith e (some (.Name x p)) pos.line X.env = pure false := by rfl) (hf : X.fn x = true ∨ X.env.scope.names.lookup x = some .local := by first | exact .inl rfl | exact .inr rfl) :
    SS X W (.Assign [.Name x p] e pos) (wOwn i wo) := by
  obtain ⟨te, pe, se⟩ := he.ex
  refine ⟨_, ps_set a.nd hi hx pe hs hf, ?_⟩
  intro D0 S σ H o P D E hw g
  refine se D0 S σ H o _ P.ex _ E hw (fun ds c S1 vs q H1 h1 E1 x1 hq V1 => ?_) g.xw
  exact g.nx _ _ _ _ h1.2 (E1.own i hq (V1.clean E1 h1.1)) (x1.fr.trans (fr_own (D0 := D0) (S := S1) (σ := σ) hq))
/-- targets of any kind -/
def wAsg (we : WEx) (wg : WTg) : WS := fun S P => we S (fun d c S1 => wg d c S1 P.nx) P.ex
theorem ss_asg {tg e : Expr} {L : List Nat} {we : WEx} {wg : WTg} (he : SE X W e we) (hg : SG X tg L wg) (hs : swapsWithSole [tg] e pos.line X.env = pure false := by rfl) (hw : swappedStores [tg] e X.env = pure none := by rfl)
    (h1 : (assignEach [tg] X.env).map (·.2) = [assign tg X.env] := by rfl) : SS X W (.Assign [tg] e pos) (wAsg we wg) := by
  obtain ⟨te, pe, se⟩ := he.ex
  obtain ⟨gg, pg, sg⟩ := hg.ex
  refine ⟨_, ps_asg pe pg hs hw h1, ?_⟩
  intro D0 S σ H o P D E hw g
  refine se D0 S σ H o _ P.ex _ E hw (fun d c S1 v H1 h1 E1 x1 V1 => ?_) g.xw
  exact sg D0 S1 σ H1 o v d c _ _ E1 V1 h1 fun S2 σ2 h2 E2 _ => g.nx _ _ _ _ h2 E2 x1.fr
def wPar (i j : Nat) (wa : WLs) : WS := fun S P => wa S (fun ds c S1 => match ds with
  | [x, y] => (c ∨ flats [x, y] = true) ∧ P.nx ((S1.set i (.im x)).set j (.im y))
  | _ => False) P.ex
theorem ss_par (i j : Nat) {x y : Str} {e1 e2 : Expr} {px py pt : Pos} {kt k2 pt2} {wa : WLs} (a : At X W k) (ha : SA X W [e1, e2] wa) (hi : X.N[i]? = some x := by rfl) (hj : X.N[j]? = some y := by rfl) (hij : i ≠ j := by decide)
    (hx : X.env.scope.names.lookup x = some .local := by rfl) (hy : X.env.scope.names.lookup y = some .local := by rfl)
    (hw : swappedStores [.Tuple [.Name x px, .Name y py] kt pt] (.Tuple [e1, e2] k2 pt2) X.env = pure (some [x, y]) := by rfl)
    (hs : swapsWithSole [.Tuple [.Name x px, .Name y py] kt pt] (.Tuple [e1, e2] k2 pt2) pos.line X.env = pure false := by rfl) :
    SS X W (.Assign [.Tuple [.Name x px, .Name y py] kt pt] (.Tuple [e1, e2] k2 pt2) pos) (wPar i j wa) := by
  obtain ⟨ta, pa, sa⟩ := ha.ex
  refine ⟨_, ps_par a.calm a.nd hi hj hij hx hy pa hw hs, ?_⟩
  intro D0 S σ H o P D E hw g
  refine sa D0 S σ H o _ P.ex _ E hw (fun ds c S1 vs H1 hl h1 E1 x1 V1 => ?_) g.xw
  split at h1
  · have q := V1.clean E1 h1.1
    cases q with
    | cons r1 q =>
      cases q with
      | cons r2 q =>
        cases q
        exact ⟨_, _, rfl, g.nx _ _ _ _ h1.2 ((E1.put i r1).put j r2) x1.fr⟩
  · exact h1.elim
def wAug (i : Nat) (g : R2D) (we : WEx) : WS := fun S P => match S[i]? with
  | some (.im d) => we S (fun y cy S1 => g d True y cy fun z cz => (cz ∨ flat z = true) ∧ P.nx (S1.set i (.im z))) P.ex
  | _ => False
theorem ss_aug (i : Nat) {x : Str} {e : Expr} {p : Pos} {op : Operator} {g : R2D} {we : WEx} (a : At X W k) (ho : Op2 X (inplaceOp op) g) (he : SE X W e we) (hi : X.N[i]? = some x := by rfl) (hx : Loc X.env.scope x := by first | exact Or.inl rfl | exact Or.inr rfl) (hf : X.fn x = true ∨ X.env.scope.names.lookup x = some .local := by first | exact .inl rfl | exact .inr rfl) :
    SS X W (.AugAssign (.Name x p) op e pos) (wAug i g we) := by
  obtain ⟨te, pe, se⟩ := he.ex
  obtain ⟨r, hr, h⟩ := ho.ex
  refine ⟨_, ps_aug (ti := r) a.nd hi hx pe hr hf, ?_⟩
  intro D0 S σ H o P D E hw gg
  unfold wAug at hw
  split at hw
  · rename_i d hs
    obtain ⟨v, h1, h2⟩ := E.sl i _ hs
    refine ⟨v, h1, se D0 S σ H o _ P.ex _ E hw (fun y cy S1 u H1 h3 E1 x1 V1 => ?_) gg.xw⟩
    refine h D0 S1 σ o H1 v u d y True cy _ _ E1 ((Val.of h2).mono x1) V1 h3 fun z dz cz H' hz le V => ?_
    have E2 := E1.xe le
    exact gg.nx _ _ _ _ hz.2 (E2.put i ((V.flat E2).2 hz.1)) (x1.trans (XE.of le)).fr
  · exact hw.elim
def gIadd : R2D := gI (fun _ _ => True) fun i j => .int (i + j)
theorem o_iadd : Op2 X (inplaceOp .Add) gIadd := op2_I0 iop_add fun _ _ _ => .int _
theorem o_imul : Op2 X (inplaceOp .Mult) gMulS := op2_I iop_mul fun _ _ _ => .int _
theorem o_idiv : Op2 X (inplaceOp .FloorDiv) gDiv := op2_I iop_fdivW fun _ _ _ => .int _

/-! an expression alone; return; if -/
def wDrop (we : WEx) : WS := fun S P => we S (fun _ _ S1 => P.nx S1) P.ex
theorem ss_expr {e : Expr} {we : WEx} (he : SE X W e we) (hs : swapsWith e none pos.line X.env = pure false := by rfl) : SS X W (.Expr e pos) (wDrop we) := by
  obtain ⟨te, pe, se⟩ := he.ex
  refine ⟨_, ps_expr pe hs, ?_⟩
  intro D0 S σ H o P D E hw g
  exact se D0 S σ H o _ P.ex _ E hw (fun d c S1 v H1 h1 E1 x1 V1 => g.nx _ _ _ _ h1 E1 x1.fr) g.xw
def wRet (we : WEx) : WS := fun S P => we S P.rt P.ex
theorem ss_ret {e : Expr} {we : WEx} (he : SE X W e we) : SS X W (.Return (some e) pos) (wRet we) := by
  obtain ⟨te, pe, se⟩ := he.ex
  refine ⟨_, ps_ret pe, ?_⟩
  intro D0 S σ H o P D E hw g
  exact se D0 S σ H o _ P.ex _ E hw (fun d c S1 v H1 h1 E1 x1 V1 => g.rt _ _ _ _ _ _ _ h1 E1 x1.fr V1) g.xw
def wIfS (wt : WTx) (w1 w2 : WS) : WS := fun S P => wt S (fun b S1 => if b = true then w1 S1 P else w2 S1 P) P.ex
theorem ss_if {c : Expr} {a b : List Stmt} {wt : WTx} {w1 w2 : WS} (hc : ST X W c wt) (ha : SSs X W a w1) (hb : SSs X W b w2) : SS X W (.If c a b pos) (wIfS wt w1 w2) := by
  obtain ⟨tc, pc, sc⟩ := hc.ex
  obtain ⟨ta, pa, sa⟩ := ha.ex
  obtain ⟨tb, pb, sb⟩ := hb.ex
  refine ⟨_, ps_if pc pa pb, ?_⟩
  intro D0 S σ H o P D E hw g
  refine sc D0 S σ H o _ P.ex _ E hw (fun b S1 H1 h1 E1 x1 => ?_) g.xw
  cases b with
  | true => exact sa D0 S1 σ H1 o P D E1 h1 (g.on x1.fr)
  | false => exact sb D0 S1 σ H1 o P D E1 h1 (g.on x1.fr)

/-! loops -/
def forL (wg : WTg) (wb : WS) (c : Prop) (P : En) : List PyData → Slots → Prop
  | [], S => P.nx S
  | d :: r, S => wg d c S fun S1 => wb S1 { P with nx := forL wg wb c P r, ct := forL wg wb c P r, bk := P.nx }
def wFor (wi : WLs) (wg : WTg) (wb : WS) : WS := fun S P => wi S (fun ds c S1 => c ∧ forL wg wb c P ds S1) P.ex
theorem for_core {L : List Nat} {gg : TG} {tb : TS} {wg : WTg} {wb : WS} {J : It} {ds : List PyData} {c : Prop} {Z : (Addr → Bool) → Ow → Hp → Prop} (sg : SndG L gg wg) (sb : SndS W tb wb) (wk : Wk J ds c Z)
    {D0 : Addr → Bool} {S1 : Slots} {σ : St} {H1 : Hp} {o : Ow} {P : En} {D : Ends} (hc : c) (z1 : Z D0 o H1) (E1 : Env D0 S1 σ H1 o) (h1 : forL wg wb c P ds S1) (g : Goes W D0 o H1 P D) :
    ∃ W' : Nat → Nat → St → Hp → Prop, (∃ m, W' 0 m σ H1) ∧ ∀ i m σ H, W' i m σ H →
      (J.stop i H ∧ D.nx σ H) ∨ (J.go i H ∧ ∃ N : St → Hp → Prop, (∀ σ' H', N σ' H' → ∃ m', m' < m ∧ W' (i + 1) m' σ' H') ∧ ∀ x H', J.yld i H x H' → gg x σ H' fun σ2 H2 => tb { D with nx := N, ct := N, bk := D.nx } σ2 H2) := by
  refine ⟨fun i m σ' H' => m = ds.length - i ∧ i ≤ ds.length ∧ ∃ (S' : Slots) (o' : Ow), forL wg wb c P (ds.drop i) S' ∧ Env D0 S' σ' H' o' ∧ Fr o H1 o' H' ∧ Z D0 o' H', ⟨ds.length, by simp, Nat.zero_le _, S1, o, h1, E1, Fr.refl _ _, z1⟩, ?_⟩
  rintro i m σ2 H2 ⟨rfl, hi, S2, o2, h2, E2, f2, z2⟩
  by_cases hlt : i < ds.length
  · right
    refine ⟨wk.go _ _ _ _ z2 hlt, fun σ' H' => i + 1 ≤ ds.length ∧ ∃ (S' : Slots) (o' : Ow), forL wg wb c P (ds.drop (i + 1)) S' ∧ Env D0 S' σ' H' o' ∧ Fr o H1 o' H' ∧ Z D0 o' H', fun σ' H' hN => ⟨ds.length - (i + 1), by omega, rfl, hN⟩, fun x H3 hy => ?_⟩
    obtain ⟨le3, Vx⟩ := wk.yld D0 S2 σ2 o2 H2 i x H3 ds[i] z2 E2 (List.getElem?_eq_getElem hlt) hy
    rw [List.drop_eq_getElem_cons hlt] at h2
    unfold forL at h2
    refine sg D0 S2 σ2 H3 o2 x ds[i] c _ _ (E2.xe le3) Vx h2 fun S4 σ4 h4 E4 _ => ?_
    have f3 : Fr o H1 o2 H3 := f2.trans (XE.of le3).fr
    have z3 : Z D0 o2 H3 := wk.fr _ _ _ _ _ hc z2 (XE.of le3).fr (XE.of le3).vw
    have turn : ∀ S' σ' H' o', forL wg wb c P (ds.drop (i + 1)) S' → Env D0 S' σ' H' o' → Fr o2 H3 o' H' → i + 1 ≤ ds.length ∧ ∃ (S' : Slots) (o' : Ow), forL wg wb c P (ds.drop (i + 1)) S' ∧ Env D0 S' σ' H' o' ∧ Fr o H1 o' H' ∧ Z D0 o' H' :=
      fun S' σ' H' o' h E' f => ⟨hlt, S', o', h, E', f3.trans f, wk.fr _ _ _ _ _ hc z3 f f.vw⟩
    exact sb D0 S4 σ4 H3 o2 _ _ E4 h4 ⟨turn, fun S' σ' H' o' h E' f => g.nx S' σ' H' o' h E' (f3.trans f), turn,
      fun d c' S' v σ' H' o' h E' f V => g.rt d c' S' v σ' H' o' h E' (f3.trans f) V, fun x' S' σ' cls dd H' o' h E' f ok => g.ex x' S' σ' cls dd H' o' h E' (f3.trans f) ok⟩
  · left
    have ei : i = ds.length := by omega
    subst ei
    rw [List.drop_length] at h2
    exact ⟨wk.stop _ _ _ z2, g.nx _ _ _ _ h2 E2 f2⟩
theorem ss_for {tg iter : Expr} {body : List Stmt} {L : List Nat} {wi : WLs} {wg : WTg} {wb : WS} (a : At X W k) (hi : SI X W tg iter wi) (hg : SG X tg L wg) (hb : SSs X W body wb)
    (hs : ∀ x, foldedSetIterable iter X.env x = pure x := by intro _; rfl) : SS X W (.For tg iter body [] pos) (wFor wi wg wb) := by
  obtain ⟨twi, pwi, swi⟩ := hi.ex
  obtain ⟨gg, pg, sg⟩ := hg.ex
  obtain ⟨tb, pb, sb⟩ := hb.ex
  refine ⟨_, ps_for a.po a.calm pwi pg pb hs, ?_⟩
  intro D0 S σ H o P D E hw g
  refine swi D0 S σ H o _ P.ex _ E hw (fun ds c S1 J H1 Z h1 E1 x1 wk z1 => ?_) g.xw
  exact for_core sg sb wk h1.1 z1 E1 h1.2 (g.on x1.fr)
def whL (wt : WTx) (wb : WS) (P : En) : Nat → Slots → Prop
  | 0, _ => False
  | n + 1, S => wt S (fun b S1 => if b = true then wb S1 { P with nx := whL wt wb P n, ct := whL wt wb P n, bk := P.nx } else P.nx S1) P.ex
def wWh (wt : WTx) (wb : WS) : WS := fun S P => ∃ n, whL wt wb P n S
theorem ss_while {c : Expr} {body : List Stmt} {wt : WTx} {wb : WS} (a : At X W k) (hc : ST X W c wt) (hb : SSs X W body wb) : SS X W (.While c body [] pos) (wWh wt wb) := by
  obtain ⟨tc, pc, sc⟩ := hc.ex
  obtain ⟨tb, pb, sb⟩ := hb.ex
  refine ⟨_, ps_while a.po pc pb, ?_⟩
  intro D0 S σ H o P D E hw g
  obtain ⟨n, hw⟩ := hw
  refine ⟨fun m σ' H' => ∃ (S' : Slots) (o' : Ow), whL wt wb P m S' ∧ Env D0 S' σ' H' o' ∧ Fr o H o' H', ⟨n, S, o, hw, E, Fr.refl _ _⟩, ?_⟩
  rintro m σ2 H2 ⟨S2, o2, h2, E2, f2⟩
  cases m with
  | zero => exact h2.elim
  | succ m =>
    refine sc D0 S2 σ2 H2 o2 _ P.ex _ E2 h2 (fun b S3 H3 h3 E3 x3 => ?_) (g.on f2).xw
    have f3 := f2.trans x3.fr
    cases b with
    | true =>
      rw [if_pos rfl] at h3 ⊢
      refine ⟨fun σ' H' => ∃ (S' : Slots) (o' : Ow), whL wt wb P m S' ∧ Env D0 S' σ' H' o' ∧ Fr o H o' H', fun σ' H' hN => ⟨m, Nat.lt_succ_self m, hN⟩, ?_⟩
      have turn : ∀ S' σ' H' o', whL wt wb P m S' → Env D0 S' σ' H' o' → Fr o2 H3 o' H' → ∃ (S' : Slots) (o' : Ow), whL wt wb P m S' ∧ Env D0 S' σ' H' o' ∧ Fr o H o' H' := fun S' σ' H' o' h E' f => ⟨S', o', h, E', f3.trans f⟩
      exact sb D0 S3 σ2 H3 o2 _ _ E3 h3 ⟨turn, fun S' σ' H' o' h E' f => g.nx S' σ' H' o' h E' (f3.trans f), turn,
        fun d c' S' v σ' H' o' h E' f V => g.rt d c' S' v σ' H' o' h E' (f3.trans f) V, fun x' S' σ' cls dd H' o' h E' f ok => g.ex x' S' σ' cls dd H' o' h E' (f3.trans f) ok⟩
    | false =>
      rw [if_neg Bool.false_ne_true] at h3 ⊢
      exact g.nx _ _ _ _ h3 E3 f3
end
end Pu

namespace Pu
open PySem L2
section
variable {X : Cx} {W : WM} {k : Nat} {pos : Pos}

/-! ### a list of one's own is changed -/
theorem ow_vw {D0 : Addr → Bool} {o : Ow} {H : Hp} {p : Addr} {q : Nat × Bool} {u : HO} (h : o p = some q) : vw D0 o (co (upd H p u)) = vw D0 o (co H) := by
  funext a
  unfold vw
  by_cases e : a = p
  · subst e
    rw [h]
    show (if (D0 a || true) = true then none else _) = (if (D0 a || true) = true then none else _)
    rw [Bool.or_true, if_pos rfl, if_pos rfl]
  · rw [co_upd, upd_ne e]
theorem Env.nf_wr {D0 : Addr → Bool} {S : Slots} {σ : St} {H : Hp} {o : Ow} {p : Addr} {w : HO} (E : Env D0 S σ H o) (hw : isFrz w = false) : ∀ a q u, o a = some q → upd H p w a = some u → isFrz u = false := fun a q u e h1 => by
  by_cases z : a = p
  · subst z
    rw [upd_same] at h1
    cases h1
    exact hw
  · rw [upd_ne z] at h1
    exact E.nf a q u e h1
theorem Env.wr {D0 : Addr → Bool} {S : Slots} {σ : St} {H : Hp} {o : Ow} {p : Addr} {i : Nat} {vs : List V} {ds : List PyData} (E : Env D0 S σ H o) (hs : i < S.length) (hσ : σ[i]? = some (some (.ref p))) (h : o p = some (i, false)) (r : RpAll (vw D0 o (co H)) vs ds) :
    Env D0 (S.set i (.ol ds)) σ (upd H p (.lst vs)) o := by
  have at_ : ∀ {a : Addr} {u : HO}, a ≠ p → co H a = some u → co (upd H p (.lst vs)) a = some u := fun {a u} n e => by rw [co_upd, upd_ne n]; exact e
  refine ⟨by rw [List.length_set]; exact E.len, fun a q e => ?_, fun a e => ?_, fun j s e => ?_, E.nf_wr rfl⟩
  · by_cases z : a = p
    · subst z
      exact ⟨(E.live _ _ h).1, _, co_of upd_same, rfl⟩
    · obtain ⟨h1, u, h2, h3⟩ := E.live a q e
      exact ⟨h1, u, at_ z h2, h3⟩
  · have ne : a ≠ p := fun z => by rw [z, (E.live _ _ h).1] at e; cases e
    obtain ⟨u, h2, h3⟩ := E.dead a e
    exact ⟨u, at_ ne h2, h3⟩
  · by_cases z : i = j
    · subst z
      rw [List.getElem?_set_self hs] at e
      cases e
      exact ⟨p, vs, hσ, h, co_of upd_same, by rw [ow_vw h]; exact r⟩
    · rw [List.getElem?_set_ne z] at e
      have ne : ∀ {a : Addr} {b : Bool}, o a = some (j, b) → a ≠ p := fun {a b} e1 e2 => by rw [e2, h] at e1; cases e1; exact z rfl
      exact (E.sl j s e).move (by rw [ow_vw h]; exact Le.refl _) fun a b u h1 h2 => ⟨h1, at_ (ne h1) h2⟩
theorem fr_wr {H : Hp} {o : Ow} {p : Addr} {q : Nat × Bool} {u : HO} (h : o p = some q) : Fr o H o (upd H p u) := fun a x n e => by
  have ne : a ≠ p := fun z => by rw [z, h] at n; cases n
  exact ⟨by rw [upd_ne ne]; exact e, n⟩
theorem Env.lt {D0 : Addr → Bool} {S : Slots} {σ : St} {C : Hp} {o : Ow} (E : Env D0 S σ C o) {i : Nat} {s : Slot} (h : S[i]? = some s) : i < S.length := (List.getElem?_eq_some_iff.mp h).1
/-- x.append(e) -/
def wApp (i : Nat) (we : WEx) : WS := fun S P => (∃ xs, S[i]? = some (.ol xs)) ∧ we S (fun d c S1 => match S1[i]? with
  | some (.ol xs) => xs.length < sizeLine ∧ (c ∨ flat d = true) ∧ P.nx (S1.set i (.ol (xs ++ [d])))
  | _ => False) P.ex
theorem ss_app (i : Nat) {x : Str} {e : Expr} {p ap cp : Pos} {we : WEx} (he : SE X W e we) (hN : X.N[i]? = some x := by rfl) (hv : Vis X.env.scope x := by first | exact Or.inl rfl | exact Or.inr (Or.inl rfl) | exact Or.inr (Or.inr rfl))
    (hd : (x == ("__debug__" : Str)) = false := by decide) (hcd : (x == ("__classdict__" : Str)) = false := by decide)
    (hb : attributeBase (.Name x p) "append" X.env (eval (.Name x p) X.env) = eval (.Name x p) X.env := by rfl)
    (hfew : ((backTo cp (starEach [e] X.env)).all (fun x => !x.1) && (backToKw cp (keywordEach [] X.env)).all (fun x => x.1.isSome) && decide ([e].length + ([] : List Keyword).length + (if ([] : List Keyword).isEmpty then 0 else 1) < 30)) = true := by rfl)
    (hl : (ap.endLine == cp.line) = true := by rfl) (hst : starEach [e] X.env = (false, eval e X.env) :: starEach [] X.env := by rfl) (hpl : (backTo cp (starEach [] X.env)).any (·.1) = false := by rfl)
    (hsw : swapsWith (.Call (.Attribute (.Name x p) "append" ap) [e] [] cp) none pos.line X.env = pure false := by rfl) :
    SS X W (.Expr (.Call (.Attribute (.Name x p) "append" ap) [e] [] cp) pos) (wApp i we) := by
  obtain ⟨te, pe, se⟩ := he.ex
  refine ⟨_, ps_expr (pe_bm PySem.F.plainAttrs_list PySem.F.slot_list_append PySem.F.type_list_append mt_append (pe_var hN hv hd hcd) (pa_cons pe pa_nil hst) hb hfew hl hst hpl) hsw, ?_⟩
  intro D0 S σ H o P D E hw g
  obtain ⟨⟨xs0, hs0⟩, hw⟩ := hw
  obtain ⟨a, vs0, h1, h2, h3, h4⟩ := E.sl i _ hs0
  refine ⟨.ref a, h1, .inl ⟨rfl, vs0, SqL.at (co_lst h3)⟩, se D0 S σ H o _ P.ex _ E hw (fun d c S1 v H1 h5 E1 x1 V1 => ?_) g.xw⟩
  split at h5
  · rename_i xs hs1
    obtain ⟨a', vs, k1, k2, k3, k4⟩ := E1.sl i _ hs1
    rw [h1] at k1
    cases k1
    refine ⟨a, vs, v, rfl, rfl, co_lst k3, by rw [k4.length]; exact h5.1, ?_⟩
    exact g.nx _ _ _ _ h5.2.2 (E1.wr (E1.lt hs1) h1 k2 (k4.append (.cons ((V1.flat E1).2 h5.2.1) .nil))) (x1.fr.trans (fr_wr k2))
  · exact h5.elim
/-- x.extend(e), e a list -/
def wExt (i : Nat) (we : WEx) : WS := fun S P => (∃ xs, S[i]? = some (.ol xs)) ∧ we S (fun d c S1 => match d, S1[i]? with
  | .list ys, some (.ol xs) => xs.length + ys.length ≤ sizeLine ∧ (c ∨ flats ys = true) ∧ P.nx (S1.set i (.ol (xs ++ ys)))
  | _, _ => False) P.ex
theorem ss_ext (i : Nat) {x : Str} {e : Expr} {p ap cp : Pos} {we : WEx} (he : SE X W e we) (hN : X.N[i]? = some x := by rfl) (hv : Vis X.env.scope x := by first | exact Or.inl rfl | exact Or.inr (Or.inl rfl) | exact Or.inr (Or.inr rfl))
    (hd : (x == ("__debug__" : Str)) = false := by decide) (hcd : (x == ("__classdict__" : Str)) = false := by decide)
    (hb : attributeBase (.Name x p) "extend" X.env (eval (.Name x p) X.env) = eval (.Name x p) X.env := by rfl)
    (hfew : ((backTo cp (starEach [e] X.env)).all (fun x => !x.1) && (backToKw cp (keywordEach [] X.env)).all (fun x => x.1.isSome) && decide ([e].length + ([] : List Keyword).length + (if ([] : List Keyword).isEmpty then 0 else 1) < 30)) = true := by rfl)
    (hl : (ap.endLine == cp.line) = true := by rfl) (hst : starEach [e] X.env = (false, eval e X.env) :: starEach [] X.env := by rfl) (hpl : (backTo cp (starEach [] X.env)).any (·.1) = false := by rfl)
    (hsw : swapsWith (.Call (.Attribute (.Name x p) "extend" ap) [e] [] cp) none pos.line X.env = pure false := by rfl) :
    SS X W (.Expr (.Call (.Attribute (.Name x p) "extend" ap) [e] [] cp) pos) (wExt i we) := by
  obtain ⟨te, pe, se⟩ := he.ex
  refine ⟨_, ps_expr (pe_bm PySem.F.plainAttrs_list PySem.F.slot_list_extend PySem.F.type_list_extend mt_extend (pe_var hN hv hd hcd) (pa_cons pe pa_nil hst) hb hfew hl hst hpl) hsw, ?_⟩
  intro D0 S σ H o P D E hw g
  obtain ⟨⟨xs0, hs0⟩, hw⟩ := hw
  obtain ⟨a, vs0, h1, h2, h3, h4⟩ := E.sl i _ hs0
  refine ⟨.ref a, h1, .inl ⟨rfl, vs0, SqL.at (co_lst h3)⟩, se D0 S σ H o _ P.ex _ E hw (fun d c S1 v H1 h5 E1 x1 V1 => ?_) g.xw⟩
  split at h5
  · rename_i ys xs hs1
    obtain ⟨a', vs, k1, k2, k3, k4⟩ := E1.sl i _ hs1
    rw [h1] at k1
    cases k1
    obtain ⟨b, ws, rfl, eb, rb, cb⟩ := V1.items E1
    refine ⟨a, b, vs, ws, rfl, rfl, co_lst k3, eb, by rw [k4.length, rb.length]; exact h5.1, ?_⟩
    exact g.nx _ _ _ _ h5.2.2 (E1.wr (E1.lt hs1) h1 k2 (k4.append (cb h5.2.1))) (x1.fr.trans (fr_wr k2))
  · exact h5.elim
/-- x[j] = e -/
def wSetI (i : Nat) (we wj : WEx) : WS := fun S P => we S (fun d c S1 => (∃ xs, S1[i]? = some (.ol xs)) ∧ wj S1 (fun jd _ S2 => match jd, S2[i]? with
  | .int j, some (.ol xs) => ∃ n, ixN xs.length j = some n ∧ (c ∨ flat d = true) ∧ P.nx (S2.set i (.ol (xs.set n d)))
  | _, _ => False) P.ex) P.ex
theorem ss_setI (i : Nat) {x : Str} {e j : Expr} {p ap : Pos} {we wj : WEx} (he : SE X W e we) (hj : SE X W j wj) (hN : X.N[i]? = some x := by rfl) (hv : Vis X.env.scope x := by first | exact Or.inl rfl | exact Or.inr (Or.inl rfl) | exact Or.inr (Or.inr rfl))
    (hd : (x == ("__debug__" : Str)) = false := by decide) (hcd : (x == ("__classdict__" : Str)) = false := by decide)
    (ha : ∀ v, assign (.Subscript (.Name x p) j ap) X.env v = (do
      let ov ← holding [v] (eval (.Name x p) X.env)
      let iv ← holding [v, ov] (eval j X.env)
      standAt ap
      holding [v, ov, iv] (setItem ov iv v)
      release [v, ov, iv] []) := by intro _; rfl)
    (hs : swapsWithSole [.Subscript (.Name x p) j ap] e pos.line X.env = pure false := by rfl) (hw : swappedStores [.Subscript (.Name x p) j ap] e X.env = pure none := by rfl)
    (h1 : (assignEach [.Subscript (.Name x p) j ap] X.env).map (·.2) = [assign (.Subscript (.Name x p) j ap) X.env] := by rfl) : SS X W (.Assign [.Subscript (.Name x p) j ap] e pos) (wSetI i we wj) := by
  obtain ⟨te, pe, se⟩ := he.ex
  obtain ⟨tj, pj, sj⟩ := hj.ex
  refine ⟨_, ps_asg pe (pg_sub (pe_var hN hv hd hcd) pj set_list ha) hs hw h1, ?_⟩
  intro D0 S σ H o P D E hw g
  refine se D0 S σ H o _ P.ex _ E hw (fun d c S1 v H1 h1 E1 x1 V1 => ?_) g.xw
  obtain ⟨⟨xs0, hs0⟩, h1⟩ := h1
  obtain ⟨a, vs0, k1, k2, k3, k4⟩ := E1.sl i _ hs0
  refine ⟨.ref a, k1, sj D0 S1 σ H1 o _ P.ex _ E1 h1 (fun jd cj S2 jv H2 h2 E2 x2 V2 => ?_) (g.on x1.fr).xw⟩
  split at h2
  · rename_i j' xs hs1
    obtain ⟨n, hn, hc, h2⟩ := h2
    obtain ⟨a', vs, m1, m2, m3, m4⟩ := E2.sl i _ hs1
    rw [k1] at m1
    cases m1
    cases V2.1
    refine ⟨a, vs, j', n, rfl, rfl, co_lst m3, by rw [m4.length]; exact hn, ?_⟩
    have V1' := (V1.mono x2).flat E2
    exact g.nx _ _ _ _ h2 (E2.wr (E2.lt hs1) k1 m2 (RpAll.set (V1'.2 hc) n m4)) ((x1.fr.trans x2.fr).trans (fr_wr m2))
  · exact h2.elim
/-- x[j] op= e -/
def rGetL : V → V → Hp → VK → Prop := fun x y H Q => ∃ p xs i v, x = .ref p ∧ y = .int i ∧ H p = some (.lst xs) ∧ 0 ≤ i ∧ atI xs i = some v ∧ Q v H
theorem get_list : PGet X rGetL := by
  intro pins s σ H x y v u Q I rx ry h
  obtain ⟨p, xs, i, z, rfl, rfl, hp, h0, he, q⟩ := h
  cases rx
  obtain ⟨t, rfl⟩ := ry
  obtain ⟨its, n, r, ho, hz⟩ := I.lst hp
  obtain ⟨j, h1, h2, h3, h4, h5⟩ := atI_get he
  obtain ⟨w, ew, rw'⟩ := r.get h2
  have hl := r.length
  have hn := line63
  have hj : i.toNat = j := by
    rw [seqIndex_of h0 h5] at h1
    exact Option.some.inj h1
  have pl : s.heap.IsList p its.toArray := ⟨_, ho, rfl, n, rfl⟩
  exact wpAny_getItem_list pl h0 (by omega) (by rw [hj]; simpa using ew) ⟨z, H, I, rw', q⟩
def wAugI (i : Nat) (g : R2D) (wj we : WEx) : WS := fun S P => (∃ xs, S[i]? = some (.ol xs)) ∧ wj S (fun jd _ S1 => match jd, S1[i]? with
  | .int j, some (.ol xs) => 0 ≤ j ∧ ∃ d, atD xs j = some d ∧ we S1 (fun y cy S2 => g d True y cy fun z cz => match S2[i]? with
    | some (.ol ys) => ∃ n, ixN ys.length j = some n ∧ (cz ∨ flat z = true) ∧ P.nx (S2.set i (.ol (ys.set n z)))
    | _ => False) P.ex
  | _, _ => False) P.ex
theorem ss_augI (i : Nat) {x : Str} {e j : Expr} {op : Operator} {p ap : Pos} {g : R2D} {we wj : WEx} (ho : Op2 X (inplaceOp op) g) (hj : SE X W j wj) (he : SE X W e we) (hN : X.N[i]? = some x := by rfl) (hv : Vis X.env.scope x := by first | exact Or.inl rfl | exact Or.inr (Or.inl rfl) | exact Or.inr (Or.inr rfl))
    (hd : (x == ("__debug__" : Str)) = false := by decide) (hcd : (x == ("__classdict__" : Str)) = false := by decide)
    (ha : ∀ ov iv new, augStore j ov iv new = (do holding [new, ov, iv] (setItem ov iv new); release [new, ov, iv] []; pure .next) := by intros; rfl) :
    SS X W (.AugAssign (.Subscript (.Name x p) j ap) op e pos) (wAugI i g wj we) := by
  obtain ⟨te, pe, se⟩ := he.ex
  obtain ⟨tj, pj, sj⟩ := hj.ex
  obtain ⟨r, hr, h⟩ := ho.ex
  refine ⟨_, ps_augS (tip := r) (pe_var hN hv hd hcd) pj get_list pe hr set_list ha, ?_⟩
  intro D0 S σ H o P D E hw gg
  obtain ⟨⟨xs0, hs0⟩, hw⟩ := hw
  obtain ⟨a, vs0, k1, k2, k3, k4⟩ := E.sl i _ hs0
  refine ⟨.ref a, k1, sj D0 S σ H o _ P.ex _ E hw (fun jd cj S1 jv H1 h1 E1 x1 V1 => ?_) gg.xw⟩
  split at h1
  · rename_i j' xs hs1
    obtain ⟨h0, d, hd, h1⟩ := h1
    obtain ⟨a', vs, m1, m2, m3, m4⟩ := E1.sl i _ hs1
    rw [k1] at m1
    cases m1
    cases V1.1
    obtain ⟨v, hv, rv⟩ := rp_at m4 hd
    refine ⟨a, vs, j', v, rfl, rfl, co_lst m3, h0, hv, se D0 S1 σ H1 o _ P.ex _ E1 h1 (fun y cy S2 u H2 h2 E2 x2 V2 => ?_) (gg.on x1.fr).xw⟩
    refine h D0 S2 σ o H2 v u d y True cy _ _ E2 ((Val.of rv).mono x2) V2 h2 fun z dz cz H3 hz le V => ?_
    have E3 := E2.xe le
    split at hz
    · rename_i ys hs2
      obtain ⟨n, hn, hc, hz⟩ := hz
      obtain ⟨a', vs', q1, q2, q3, q4⟩ := E3.sl i _ hs2
      rw [k1] at q1
      cases q1
      refine ⟨a, vs', j', n, rfl, rfl, co_lst q3, by rw [q4.length]; exact hn, ?_⟩
      exact gg.nx _ _ _ _ hz (E3.wr (E3.lt hs2) k1 q2 (RpAll.set ((V.flat E3).2 hc) n q4)) ((((x1.trans x2).trans (XE.of le)).fr).trans (fr_wr q2))
    · exact hz.elim
  · exact h1.elim
theorem o_isub : Op2 X (inplaceOp .Sub) (gI (fun _ _ => True) fun i j => .int (i - j)) := op2_I0 iop_sub fun _ _ _ => .int _

/-! ### a def of the text keeps its promise -/
/-- the frame at a def's start -/
def startS (n : Nat) (ds : List PyData) : Slots := ds.map .im ++ List.replicate (n - ds.length) .un
theorem env_start {D0 : Addr → Bool} {N : List Str} {vs : List V} {ds : List PyData} {H : Hp} (hd : ∀ a, D0 a = true → ∃ u, co H a = some u ∧ isTup u = false) (r : RpAll (hid D0 (co H)) vs ds) : Env D0 (startS N.length ds) (L2.start N vs) H (fun _ => none) := by
  have ev : vw D0 (fun _ => none) (co H) = hid D0 (co H) := by
    funext a
    unfold vw hid
    simp
  refine ⟨?_, fun a p e => (by cases e), hd, fun i s e => ?_, fun a p u e => (by cases e)⟩
  · unfold startS L2.start
    simp [r.length]
  · unfold startS at e
    by_cases hi : i < ds.length
    · rw [List.getElem?_append_left (by simpa using hi), List.getElem?_map, List.getElem?_eq_getElem hi] at e
      cases e
      obtain ⟨v, h1, h2⟩ := r.get (List.getElem?_eq_getElem hi)
      refine ⟨v, ?_, by rw [ev]; exact h2⟩
      unfold L2.start
      rw [List.getElem?_append_left (by simpa [r.length] using hi), List.getElem?_map, h1]
      rfl
    · rw [List.getElem?_append_right (by simpa using hi), List.getElem?_replicate] at e
      split at e
      · cases e
        trivial
      · cases e
section
variable {P : Program} {w : World} {K : PySem.W.Frag} {mg : Str → Option Value} {base : Heap}
/-- THE RULE for a def that changes nothing -/
theorem def_ok {x : Str} {st : Stmt} {f : Addr} {fd : FuncData} {N ps : List Str} {k : Nat} {sp : Spc} (F : Fun K x x st f fd) (S : FnScope N ps (defScope st))
    (hb : ∀ (cdv : Value) (A : Around) (outer : List PySem.Env) (s : Shared) (H : Hp) (E : XK), At (cxOf (L2.CX P w) P w K mg base N x (defScope st) f cdv A outer s H E) ⟨mg, fun cls d _ H' => E cls d H'⟩ k →
      ∃ wb, SSs (cxOf (L2.CX P w) P w K mg base N x (defScope st) f cdv A outer s H E) ⟨mg, fun cls d _ H' => E cls d H'⟩ (defBody st) wb ∧
        ∀ ds A B, ds.length = ps.length → sp ds A B → wb (startS N.length ds) ⟨fun _ => A .none, fun d _ _ => A d, fun _ => False, fun _ => False, fun x _ => B x⟩) :
    FnOk P w K mg base (L2.CX P w) (k + 1) f fd ps (spOf mg ps.length sp) := by
  refine F.okX S (fun vs H Q E h => spOf_len h) (fun cdv A outer s H vs Q E hr h => ?_)
  obtain ⟨ds, D0, A', B', hl, hd, r, hsp, hA, hB⟩ := h
  have at_ : At (cxOf (L2.CX P w) P w K mg base N x (defScope st) f cdv A outer s H E) ⟨mg, fun cls d _ H' => E cls d H'⟩ k := by
    refine ⟨hr, rfl, takes_of rfl rfl rfl rfl, rfl, S.nd, passes_of rfl⟩
  obtain ⟨wb, hp, hw⟩ := hb cdv A outer s H E at_
  obtain ⟨t, pt, st'⟩ := hp.ex
  refine ⟨t, pt, ?_⟩
  have ev : ∀ {H' : Hp} {o' : Ow} {v : V} {d : PyData}, Rp (vt D0 o' (co H')) v d → Rp (hid D0 (co H')) v d := fun {H' o' v d} q => q.mono fun a u e => by
    unfold vt at e
    unfold hid
    split at e
    · cases e
    · rename_i hn
      rw [if_neg (fun z => hn (by rw [z, Bool.true_or]))]
      exact e
  have le : ∀ {H' : Hp} {o' : Ow}, Fr (fun _ => none) H o' H' → Le H H' := fun {H' o'} f a u e => (f a u rfl e).1
  exact st' D0 _ _ H _ _ _ (env_start hd r) (hw ds A' B' hl hsp)
    ⟨fun S' σ' H' o' h E' f => hA _ _ _ h (le f) .non, fun _ _ _ _ h => h.elim, fun _ _ _ _ h => h.elim,
      fun d c S' v σ' H' o' h E' f V => hA _ _ _ h (le f) (ev V.1), fun x S' σ' cls dd H' o' h E' f ok => hB x cls dd H' h (le f) ok⟩
end
end
end Pu

namespace Pu
open PySem L2
section
variable {X : Cx} {W : WM} {k : Nat} {pos : Pos}
theorem vals1 {D0 : Addr → Bool} {o : Ow} {H : Hp} {vs : List V} {d : PyData} {c : Prop} (h : Vals' D0 o H vs [d] c) : ∃ v, vs = [v] ∧ Val D0 o H v d c := by
  obtain ⟨h1, h2⟩ := h
  cases h1 with
  | cons a b =>
    cases b
    exact ⟨_, rfl, a, fun hc => by cases h2 hc with | cons a' _ => exact a'⟩
theorem CallR.or {f : Value} {r1 r2 : List V → Hp → VK → Prop} (h1 : CallR X f r1) (h2 : CallR X f r2) : CallR X f (fun xs H Q => r1 xs H Q ∨ r2 xs H Q) := by
  intro pins s σ H xs us Q I rx h
  rcases h with h | h
  · exact h1 pins s σ H xs us Q I rx h
  · exact h2 pins s σ H xs us Q I rx h
def gLen : RD := fun ds _ K => match ds with
  | [.list xs] => K (.int xs.length) True
  | [.tuple xs] => K (.int xs.length) True
  | [.str z] => z.length ≤ sizeLine ∧ K (.int z.length) True
  | _ => False
theorem f_len : Fn X (.builtin "len") gLen := by
  refine ⟨_, call_len, ?_⟩
  intro D0 S σ o H vs ds c K Q E V hg k
  unfold gLen at hg
  split at hg
  · obtain ⟨v, rfl, U⟩ := vals1 V
    obtain ⟨a, ws, rfl, e, r, _⟩ := U.items E
    refine ⟨_, ws.length, rfl, .inl ⟨ws, SqL.at e, rfl⟩, ?_⟩
    rw [r.length]
    exact k _ _ _ H hg (Le.refl H) (Val.of (.int _))
  · obtain ⟨v, rfl, U⟩ := vals1 V
    obtain ⟨a, ws, rfl, e, r, _⟩ := U.titems E
    refine ⟨_, ws.length, rfl, .inr ⟨ws, SqT.at e, rfl⟩, ?_⟩
    rw [r.length]
    exact k _ _ _ H hg (Le.refl H) (Val.of (.int _))
  · obtain ⟨v, rfl, U⟩ := vals1 V
    cases U.1
    exact ⟨_, _, rfl, ⟨hg.1, rfl⟩, k _ _ _ H hg.2 (Le.refl H) (Val.of (.int _))⟩
  · exact hg.elim
def gInt : RD := fun ds _ K => match ds with
  | [.int i] => K (.int i) True
  | [.bool b] => K (.int (if b then 1 else 0)) True
  | _ => False
theorem f_int : Fn X (.type "int") gInt := by
  refine ⟨_, call_int1, ?_⟩
  intro D0 S σ o H vs ds c K Q E V hg k
  unfold gInt at hg
  split at hg
  · obtain ⟨v, rfl, U⟩ := vals1 V
    cases U.1
    exact .inl ⟨_, rfl, k _ _ _ H hg (Le.refl H) (Val.of (.int _))⟩
  · obtain ⟨v, rfl, U⟩ := vals1 V
    cases U.1
    exact .inr ⟨_, rfl, k _ _ _ H hg (Le.refl H) (Val.of (.int _))⟩
  · exact hg.elim
def gList : RDL := fun ds c K => match ds with
  | [.list xs] => K xs (c ∨ flats xs = true)
  | [.tuple xs] => K xs (c ∨ flats xs = true)
  | _ => False
theorem fo_list : FnO X (.type "list") gList := by
  refine ⟨_, call_list_of, ?_⟩
  intro D0 S σ o H vs ds c K Q E V hg k
  unfold gList at hg
  split at hg
  · obtain ⟨v, rfl, U⟩ := vals1 V
    obtain ⟨a, ws, rfl, e, r, rc⟩ := U.items E
    exact ⟨a, ws, rfl, .inl (SqL.at e), fun l hl => k _ _ ws l H hg (Le.refl H) hl ⟨r, rc⟩⟩
  · obtain ⟨v, rfl, U⟩ := vals1 V
    obtain ⟨a, ws, rfl, e, r, rc⟩ := U.titems E
    exact ⟨a, ws, rfl, .inr (SqT.at e), fun l hl => k _ _ ws l H hg (Le.refl H) hl ⟨r, rc⟩⟩
  · exact hg.elim
def gTuple : RD := fun ds c K => match ds with
  | [.list xs] => K (.tuple xs) (c ∨ flats xs = true)
  | [.tuple xs] => K (.tuple xs) c
  | _ => False
theorem f_tuple : Fn X (.type "tuple") gTuple := by
  refine ⟨_, call_tuple_of, ?_⟩
  intro D0 S σ o H vs ds c K Q E V hg k
  unfold gTuple at hg
  split at hg
  · obtain ⟨v, rfl, U⟩ := vals1 V
    obtain ⟨a, ws, rfl, e, r, rc⟩ := U.items E
    exact ⟨a, ws, rfl, .inl ⟨SqL.at e, fun l hl => k _ _ _ _ hg (Le.new hl) (Val.newT E hl ⟨r, rc⟩)⟩⟩
  · obtain ⟨v, rfl, U⟩ := vals1 V
    obtain ⟨a, ws, rfl, e, r, rc⟩ := U.titems E
    exact ⟨a, ws, rfl, .inr ⟨SqT.at e, k _ _ _ H hg (Le.refl H) U⟩⟩
  · exact hg.elim

/-! isinstance -/
def typD : PyData → String
  | .none => "NoneType"
  | .bool _ => "bool"
  | .int _ => "int"
  | .str _ => "str"
  | .list _ => "list"
  | .tuple _ => "tuple"
  | .dict _ => "dict"
def isT (T : String) (d : PyData) : Bool := match T, d with
  | "int", .int _ => true
  | "int", .bool _ => true
  | "bool", .bool _ => true
  | "str", .str _ => true
  | "list", .list _ => true
  | "tuple", .tuple _ => true
  | "dict", .dict _ => true
  | _, _ => false
theorem rp_ty {K : PySem.W.Frag} {H : Hp} {v : V} {d : PyData} (r : Rp (co H) v d) (hd : typD d ≠ "dict") : TyX K H v (.type (typD d)) := by
  cases r with
  | non => exact .base .non
  | bl b => exact .base (.bl b)
  | int i => exact .base (.int i)
  | str s => exact .base (.str s)
  | lst e _ => exact .base (.lst (co_lst e))
  | tup e _ => exact .base (.tup (co_tup e))
  | dK e _ => exact absurd rfl hd
  | dT e _ => exact absurd rfl hd
/-- T is one of the five that are asked for -/
def okT (T : String) : Bool := T == "int" || T == "bool" || T == "str" || T == "list" || T == "tuple"
def isTb (a T : String) : Bool := a == T || (a == "bool" && T == "int")
theorem kit_all : (["NoneType", "bool", "int", "str", "list", "tuple"].all fun a => ["int", "bool", "str", "list", "tuple"].all fun T => kitB a T == some (isTb a T)) = true := by decide +kernel
theorem kit_d {d : PyData} {T : String} (hd : typD d ≠ "dict") (hT : okT T = true) : kitB (typD d) T = some (isTb (typD d) T) := by
  have h := kit_all
  rw [List.all_eq_true] at h
  have hm : typD d ∈ ["NoneType", "bool", "int", "str", "list", "tuple"] := by
    cases d <;> simp [typD] at hd ⊢
  have h2 := h _ hm
  rw [List.all_eq_true] at h2
  have hT' : T ∈ ["int", "bool", "str", "list", "tuple"] := by
    simp [okT] at hT ⊢
    rcases hT with (((h | h) | h) | h) | h <;> simp [h]
  simpa using h2 T hT'
def wIsi (T : String) (we : WEx) : WEx := fun S A B => we S (fun d _ S1 => typD d ≠ "dict" ∧ A (.bool (isTb (typD d) T)) True S1) B
theorem se_isi {T : String} {x : Str} {p q : Pos} {e : Expr} {we : WEx} (he : SE X W e we) (hm : X.mg "isinstance" = none) (hmT : X.mg x = none) (hv : bootBuiltins x = some (.type T)) (hT : okT T = true) (hg : Gl X "isinstance" := by rfl) (hgT : Gl X x := by rfl) (hn : x ≠ "__name__" := by decide) (hdb : (x == ("__debug__" : Str)) = false := by decide)
    (hst : starEach [e, .Name x q] X.env = (false, eval e X.env) :: starEach [.Name x q] X.env := by rfl) (hst2 : starEach [.Name x q] X.env = (false, eval (.Name x q) X.env) :: starEach [] X.env := by rfl) (hpl : (backTo pos (starEach [.Name x q] X.env)).any (·.1) = false := by rfl) :
    SE X W (.Call (.Name "isinstance" p) [e, .Name x q] [] pos) (wIsi T we) := by
  obtain ⟨te, pe, se⟩ := he.ex
  refine ⟨_, pe_callB call_isi hg hm (by decide +kernel) (pa_cons pe (pa_cons (pe_bltn (v := .ty T) hgT hmT hv rfl hn hdb) pa_nil hst2) hst) (by decide) (by decide) hst hpl, ?_⟩
  intro D0 S σ H o A B Q E hw k kx
  refine se D0 S σ H o _ B _ E hw (fun d c S1 v H1 h1 E1 x1 V1 => ?_) kx
  exact ⟨v, .ty T, _, _, _, rfl, .ty T, rp_ty (V1.1.mono vt_le) h1.1, kit_ty (kit_d h1.1 hT), k _ _ S1 _ H1 h1.2 E1 x1 (Val.of (.bl _))⟩

/-! least, greatest, sum -/
def ints? : List PyData → Option (List Int)
  | [] => some []
  | .int i :: r => (ints? r).map (i :: ·)
  | _ :: _ => none
theorem ints?_map : ∀ ns : List Int, ints? (ns.map PyData.int) = some ns
  | [] => rfl
  | n :: r => by
    show (ints? (r.map PyData.int)).map (n :: ·) = _
    rw [ints?_map r]
    rfl
theorem ints?_of : ∀ {ds : List PyData} {ns : List Int}, ints? ds = some ns → ds = ns.map PyData.int
  | [], _, h => by cases h; rfl
  | .int i :: r, ns, h => by
    unfold ints? at h
    cases e : ints? r with
    | none => rw [e] at h; cases h
    | some l =>
      rw [e] at h
      cases h
      rw [ints?_of e]
      rfl
  | .none :: _, _, h => by cases h
  | .bool _ :: _, _, h => by cases h
  | .str _ :: _, _, h => by cases h
  | .list _ :: _, _, h => by cases h
  | .tuple _ :: _, _, h => by cases h
  | .dict _ :: _, _, h => by cases h
theorem alike_ints (n : Int) (ns : List Int) : PySem.W.AlikeAll ((n :: ns).map PyData.int) := by
  refine ⟨fun x hx y hy => ?_, fun x hx => ?_⟩
  · obtain ⟨a, _, rfl⟩ := List.mem_map.mp hx
    obtain ⟨b, _, rfl⟩ := List.mem_map.mp hy
    rfl
  · obtain ⟨a, _, rfl⟩ := List.mem_map.mp hx
    intro z
    cases z
theorem reads_ints {s : Heap} : ∀ {us : List Value} {ns : List Int}, PyProof.Rows.IntsAre us ns → ∃ as, ReadsAll s us (ns.map PyData.int) as
  | _, _, .nil => ⟨_, .nil⟩
  | _, _, .cons n t h => let ⟨as, r⟩ := reads_ints h; ⟨_, .cons (.int n t) r⟩
def rMxS (K : PySem.W.Frag) (f : Int → Int → Int) : List V → Hp → VK → Prop := fun vs H Q => ∃ (a : Addr) (n : Int) (ns : List Int), vs = [V.ref a] ∧ (H a = some (.lst ((n :: ns).map V.int)) ∨ H a = some (.tup ((n :: ns).map V.int))) ∧ Q (.int (ns.foldl f n)) H
theorem hu_mm {A : Around} {n : Int} {ns : List Int} (h : A.units + 64 < cLine) : A.units + 1 + PyData.depthAll ((n :: ns).map PyData.int) < cLine := by
  rw [PySem.W.depth_ints]
  omega
theorem cr_mx (a : At X W k) : CallR X (.builtin "max") (rMxS X.K max) := by
  intro pins s σ H vs us Q I r h
  obtain ⟨p, n, ns, rfl, hp, q⟩ := h
  rw [Vals.ref1 r]
  have fin : ∀ {h' : Heap} {tk : Nat} {v : Value} {bs : List Addr}, Reads h' v (PySem.W.maxD (.int n) (ns.map PyData.int)) bs → (∀ b o, s.heap.get? b = some o → h'.get? b = some o) → EP X pins σ Q v { s with heap := h', toks := tk } := fun {h' tk v bs} rd hk => by
    rw [PySem.W.maxD_ints] at rd
    cases rd
    exact ⟨.int _, H, I.kept hk, ⟨_, rfl⟩, q⟩
  rcases hp with hp | hp
  · obtain ⟨its, rv, hl, _⟩ := I.list (SqL.at hp)
    obtain ⟨as, rr⟩ := reads_ints (s := s.heap) rv.ints
    exact PySem.W.max_list_data (I.ok.hd a.calm) hl.isList (x := .int n) (xs := ns.map PyData.int) rr (alike_ints n ns) (hu_mm a.u64) fun i v h' tk bs _ rd hk => fin rd hk
  · obtain ⟨its, rv, hl, _⟩ := I.tuple (SqT.at hp)
    obtain ⟨as, rr⟩ := reads_ints (s := s.heap) rv.ints
    exact PySem.W.max_tuple_data (I.ok.hd a.calm) hl (x := .int n) (xs := ns.map PyData.int) rr (alike_ints n ns) (hu_mm a.u64) fun i v h' tk bs _ rd hk => fin rd hk
theorem cr_mn (a : At X W k) : CallR X (.builtin "min") (rMxS X.K min) := by
  intro pins s σ H vs us Q I r h
  obtain ⟨p, n, ns, rfl, hp, q⟩ := h
  rw [Vals.ref1 r]
  have fin : ∀ {h' : Heap} {tk : Nat} {v : Value} {bs : List Addr}, Reads h' v (PySem.W.minD (.int n) (ns.map PyData.int)) bs → (∀ b o, s.heap.get? b = some o → h'.get? b = some o) → EP X pins σ Q v { s with heap := h', toks := tk } := fun {h' tk v bs} rd hk => by
    rw [PySem.W.minD_ints] at rd
    cases rd
    exact ⟨.int _, H, I.kept hk, ⟨_, rfl⟩, q⟩
  rcases hp with hp | hp
  · obtain ⟨its, rv, hl, _⟩ := I.list (SqL.at hp)
    obtain ⟨as, rr⟩ := reads_ints (s := s.heap) rv.ints
    exact PySem.W.min_list_data (I.ok.hd a.calm) hl.isList (x := .int n) (xs := ns.map PyData.int) rr (alike_ints n ns) (hu_mm a.u64) fun i v h' tk bs _ rd hk => fin rd hk
  · obtain ⟨its, rv, hl, _⟩ := I.tuple (SqT.at hp)
    obtain ⟨as, rr⟩ := reads_ints (s := s.heap) rv.ints
    exact PySem.W.min_tuple_data (I.ok.hd a.calm) hl (x := .int n) (xs := ns.map PyData.int) rr (alike_ints n ns) (hu_mm a.u64) fun i v h' tk bs _ rd hk => fin rd hk
def gMM (f : Int → Int → Int) : RD := fun ds _ K => match ds with
  | [.list xs] => ∃ n ns, ints? xs = some (n :: ns) ∧ K (.int (ns.foldl f n)) True
  | [.tuple xs] => ∃ n ns, ints? xs = some (n :: ns) ∧ K (.int (ns.foldl f n)) True
  | _ => False
theorem fn_mm {f : Value} {g : Int → Int → Int} (h : CallR X f (rMxS X.K g)) : Fn X f (gMM g) := by
  refine ⟨_, h, ?_⟩
  intro D0 S σ o H vs ds c K Q E V hg k
  unfold gMM at hg
  split at hg
  · obtain ⟨v, rfl, U⟩ := vals1 V
    obtain ⟨a, ws, rfl, e, r, rc⟩ := U.items E
    obtain ⟨n, ns, hi, hg⟩ := hg
    rw [ints?_of hi] at r
    rw [r.ints] at e
    exact ⟨a, n, ns, rfl, .inl e, k _ _ _ H hg (Le.refl H) (Val.of (.int _))⟩
  · obtain ⟨v, rfl, U⟩ := vals1 V
    obtain ⟨a, ws, rfl, e, r, rc⟩ := U.titems E
    obtain ⟨n, ns, hi, hg⟩ := hg
    rw [ints?_of hi] at r
    rw [r.ints] at e
    exact ⟨a, n, ns, rfl, .inr e, k _ _ _ H hg (Le.refl H) (Val.of (.int _))⟩
  · exact hg.elim
theorem f_max (a : At X W k) : Fn X (.builtin "max") (gMM max) := fn_mm (cr_mx a)
theorem f_min (a : At X W k) : Fn X (.builtin "min") (gMM min) := fn_mm (cr_mn a)
/-- max(i, j), min(i, j) -/
def g2 (f : Int → Int → Int) : RD := fun ds _ K => match ds with
  | [.int i, .int j] => K (.int (f i j)) True
  | _ => False
theorem vals2 {D0 : Addr → Bool} {o : Ow} {H : Hp} {vs : List V} {i j : Int} {c : Prop} (h : Vals' D0 o H vs [.int i, .int j] c) : vs = [.int i, .int j] := by
  obtain ⟨h1, _⟩ := h
  cases h1 with
  | cons a b =>
    cases a
    cases b with
    | cons a b =>
      cases a
      cases b
      rfl
theorem f_max2 (a : At X W k) : Fn X (.builtin "max") (g2 fun i j => if j > i then j else i) := by
  refine ⟨_, call_max2 a.calm, ?_⟩
  intro D0 S σ o H vs ds c K Q E V hg k
  unfold g2 at hg
  split at hg
  · exact ⟨_, _, vals2 V, k _ _ _ H hg (Le.refl H) (Val.of (.int _))⟩
  · exact hg.elim
theorem f_min2 (a : At X W k) : Fn X (.builtin "min") (g2 fun i j => if j < i then j else i) := by
  refine ⟨_, call_min2 a.calm, ?_⟩
  intro D0 S σ o H vs ds c K Q E V hg k
  unfold g2 at hg
  split at hg
  · exact ⟨_, _, vals2 V, k _ _ _ H hg (Le.refl H) (Val.of (.int _))⟩
  · exact hg.elim

/-! sorted -/
def leD (x y : PyData) : Bool := PySem.W.dataLe false id x y
def gSorted : RDL := fun ds c K => match ds with
  | [.list xs] => xs.length ≤ sizeLine ∧ PySem.W.AllAlike xs ∧ PySem.W.Sortable xs ∧ (∀ x ∈ xs, PyData.canLay0 x = true ∧ x.depth ≤ 60) ∧ K (xs.mergeSort leD) (c ∨ flats xs = true)
  | _ => False
theorem rp_pairs {G : Hp} : ∀ {vs : List V} {ds : List PyData}, RpAll G vs ds → ∃ ps : List (V × PyData), ps.map (·.1) = vs ∧ ps.map (·.2) = ds
  | _, _, .nil => ⟨[], rfl, rfl⟩
  | _, _, .cons (v := v) (d := d) _ b => let ⟨ps, h1, h2⟩ := rp_pairs b; ⟨(v, d) :: ps, by simp [h1], by simp [h2]⟩
theorem rp_perm {G : Hp} {ps qs : List (V × PyData)} (h : ∀ p ∈ qs, p ∈ ps) (r : RpAll G (ps.map (·.1)) (ps.map (·.2))) : RpAll G (qs.map (·.1)) (qs.map (·.2)) := by
  have at_ : ∀ p ∈ ps, Rp G p.1 p.2 := by
    clear h
    induction ps with
    | nil => intro p hp; cases hp
    | cons x l ih =>
      intro p hp
      cases r with
      | cons a b =>
        rcases List.mem_cons.mp hp with z | z
        · subst z; exact a
        · exact ih b p z
  induction qs with
  | nil => exact .nil
  | cons x l ih => exact .cons (at_ x (h x List.mem_cons_self)) (ih fun p hp => h p (List.mem_cons_of_mem _ hp))
theorem each_vals : ∀ {ps : List (V × PyData)} {us : List Value}, Vals (ps.map (·.1)) us → PySem.W.EachIs (fun u p => RelV p.1 u) us ps
  | [], _, h => by cases h; exact .nil
  | p :: ps, _, h => by
    cases h with
    | cons a b => exact .cons a (each_vals b)
theorem vals_each : ∀ {ps : List (V × PyData)} {us : List Value}, PySem.W.EachIs (fun (u : Value) (p : V × PyData) => RelV p.1 u) us ps → Vals (ps.map (·.1)) us
  | _, _, .nil => .nil
  | _, _, .cons a b => .cons a (vals_each b)
theorem each_reads {pins : List (Addr × Obj)} {σ : St} {H : Hp} {s : Shared} (I : Inv X pins σ H s) : ∀ {ps : List (V × PyData)} {us : List Value}, Vals (ps.map (·.1)) us → RpAll (co H) (ps.map (·.1)) (ps.map (·.2)) → (∀ p ∈ ps, PyData.canLay0 p.2 = true) → PySem.W.EachIs (fun u p => ∃ as, Reads s.heap u p.2 as) us ps
  | [], _, h, _, _ => by cases h; exact .nil
  | p :: ps, _, h, r, c => by
    cases h with
    | cons a b =>
      cases r with
      | cons r1 r2 => exact .cons (Dp.reads I p.2 p.1 _ (Rp.dp r1 (c p List.mem_cons_self)) a) (each_reads I b r2 fun q hq => c q (List.mem_cons_of_mem _ hq))
def rSortedD : List V → Hp → VK → Prop := fun vs H Q => ∃ (a : Addr) (ps : List (V × PyData)), vs = [V.ref a] ∧ H a = some (.lst (ps.map (·.1))) ∧ RpAll (co H) (ps.map (·.1)) (ps.map (·.2)) ∧ (∀ p ∈ ps, PyData.canLay0 p.2 = true ∧ p.2.depth ≤ 60) ∧ PySem.W.AllAlike (ps.map (·.2)) ∧ PySem.W.Sortable (ps.map (·.2)) ∧
  ∀ q, H q = none → Q (.ref q) (upd H q (.lst ((ps.mergeSort (PySem.W.dataLe false (·.2))).map (·.1))))
theorem cr_sortedD (a : At X W k) : CallR X (.builtin "sorted") rSortedD := by
  intro pins s σ H vs us Q I r h
  obtain ⟨p, ps, rfl, hp, hr, hc, h1, h2, q⟩ := h
  obtain ⟨its, rv, hl, hz⟩ := I.list (SqL.at hp)
  rw [Vals.ref1 r]
  refine PySem.W.sorted_data (R := fun u p => RelV p.1 u) (bs := ps) (enc := (·.2)) hl.isList (each_vals rv) (each_reads I rv hr fun p hp => (hc p hp).1) h1 h2 (by rw [List.length_map] at hz; exact hz) (fun b hb => by have := (hc b hb).2; have := a.room.un; omega) fun out ho eo => ?_
  obtain ⟨ep, he'⟩ := PyProof.Rows.sortedAll_at s.heap its out.toArray
  refine ⟨.ref _, upd H (s.heap.objs.size + 1) (.lst ((ps.mergeSort (PySem.W.dataLe false (·.2))).map (·.1))), I.laid (t' := s.toks) (fun _ _ => PyProof.Rows.sortedAll_old) (Nat.le_succ _) ⟨?_, out, ep, vals_each eo, he'⟩, rfl, q _ (I.hok.fresh (Nat.le_succ _))⟩
  rw [List.length_map, List.length_mergeSort]
  rw [List.length_map] at hz
  exact hz
theorem sort_snd (ps : List (V × PyData)) : (ps.mergeSort (PySem.W.dataLe false fun (p : V × PyData) => p.2)).map (·.2) = (ps.map (·.2)).mergeSort leD :=
  PySem.W.sort_maps (r := PySem.W.dataLe false fun (p : V × PyData) => p.2) (s := leD) (fun p => p.2) fun _ _ _ _ => rfl
theorem fo_sorted (a : At X W k) : FnO X (.builtin "sorted") gSorted := by
  refine ⟨_, cr_sortedD a, ?_⟩
  intro D0 S σ o H vs ds c K Q E V hg k
  unfold gSorted at hg
  split at hg
  · obtain ⟨v, rfl, U⟩ := vals1 V
    obtain ⟨p, ws, rfl, e, r, rc⟩ := U.items E
    obtain ⟨h1, h2, h3, h4, hg⟩ := hg
    obtain ⟨ps, e1, e2⟩ := rp_pairs r
    subst e1
    subst e2
    refine ⟨p, ps, rfl, e, r.mono vt_le, fun x hx => h4 _ (List.mem_map_of_mem hx), h2, h3, fun q hq => ?_⟩
    rw [← sort_snd] at hg
    exact k _ _ _ q H hg (Le.refl H) hq ⟨rp_perm (fun x hx => List.mem_mergeSort.mp hx) r, fun hc => rp_perm (fun x hx => List.mem_mergeSort.mp hx) (rc hc)⟩
  · exact hg.elim
end
end Pu

namespace Pu
open PySem L2

/-! ### enumerate of a tuple -/
section
variable {prog : Program} {w : World} {A : Around} {E : Value → Shared → Prop} {s : Shared}
theorem meets_enumT (t : Addr) (items : Array Value) (n : Nat) (dct : Option Addr) (sl : Array (Option Value)) :
    Meets (Builtin.«enumerate.__new__» ⟨[.type "enumerate", .ref t], []⟩) (fun _ R s => s.heap.get? t = some { cls := .type "tuple", dict := dct, data := .seq items n, slots := sl } ∧
      R (.ok (.ret (.ref (s.heap.push { cls := .type "tuple_iterator", data := .fields #[.ref t, .int 0 0] }).objs.size)))
        { s with heap := (s.heap.push { cls := .type "tuple_iterator", data := .fields #[.ref t, .int 0 0] }).push { cls := .type "enumerate", data := .fields #[.none, .bool false, .ref s.heap.objs.size, rawInt 0, .none, .none] } }) :=
  .of_wp fun prog w A R s h => by
    obtain ⟨hp, g, d, tk, os⟩ := s
    obtain ⟨hl, h⟩ := h
    have hsub := sub_enumerate
    have hT : Heap.IsTuple (Shared.heap ⟨hp, g, d, tk, os⟩) t items := ⟨_, hl, rfl, n, rfl⟩
    wp_walk using AutoSeq1.wpAny_loadPart' hl
    refine wpAny_stack_any fun st => wpAny_pure ?_
    split
    · rename_i c _ _ _ _ _
      cases (c == Value.type "enumerate") <;>
        (wp_walk using AutoSeq1.wpAny_loadPart' hl, wpAny_pyIter_tuple hT
         exact ⟨_, rfl, h⟩)
    · wp_walk using AutoSeq1.wpAny_loadPart' hl, wpAny_pyIter_tuple hT
      exact ⟨_, rfl, h⟩
theorem call_enumT {t : Addr} {items : Array Value} {Q : Value → Shared → Prop} (hL : s.heap.IsTuple t items)
    (h : ∀ h', IsEnum h' (s.heap.objs.size + 1) s.heap.objs.size 0 .none → h'.IsTupleIter s.heap.objs.size t 0 → (∀ b o, s.heap.get? b = some o → h'.get? b = some o) → Q (.ref (s.heap.objs.size + 1)) { s with heap := h' }) :
    wpAny (model prog w) A (call (.type "enumerate") [.ref t]) Q E s := by
  obtain ⟨⟨c, dct, dt, sl⟩, hl, hc, n, hd⟩ := hL
  have hc' : c = .type "tuple" := hc
  have hd' : dt = .seq items n := hd
  subst hc' hd'
  refine callType_new F.called_enumerate (by decide) (F.typeCall_enumerate_1 _) (F.newCall_enumerate_1 _) (fun obj => F.args_object_init_2 obj _) F.entry_enumerate_new (meets_enumT t items n dct sl) ⟨hl, ?_⟩
  have hz : (s.heap.push { cls := .type "tuple_iterator", data := .fields #[.ref t, .int 0 0] }).objs.size = s.heap.objs.size + 1 := Heap.size_push ..
  rw [hz]
  have he : IsEnum ((s.heap.push { cls := .type "tuple_iterator", data := .fields #[.ref t, .int 0 0] }).push { cls := .type "enumerate", data := .fields #[.none, .bool false, .ref s.heap.objs.size, rawInt 0, .none, .none] }) (s.heap.objs.size + 1) s.heap.objs.size 0 .none := by
    have q := Heap.get?_push_size (s.heap.push { cls := .type "tuple_iterator", data := .fields #[.ref t, .int 0 0] }) (o := { cls := .type "enumerate", data := .fields #[.none, .bool false, .ref s.heap.objs.size, rawInt 0, .none, .none] }) rfl
    rw [hz] at q
    exact q
  exact ⟨⟨_, he, rfl⟩, h _ he ⟨_, Heap.get?_push_of_some _ (Heap.get?_push_size _ rfl), rfl, rfl⟩ fun b o x => Heap.get?_push_of_some _ (Heap.get?_push_of_some _ x)⟩
end
/-- the tuple at a, its items in new pairs with their places -/
def Iteu (K : PySem.W.Frag) (a : Addr) : It :=
  ⟨fun i H => ∃ xs x, SqT K H a xs ∧ xs[i]? = some x, fun i H v H' => ∃ T x, v = .ref T ∧ H T = none ∧ H' = upd H T (.tup [.int (i : Int), x]) ∧ ∀ xs, SqT K H a xs → xs[i]? = some x, fun i H => ∃ xs, SqT K H a xs ∧ xs.length = i⟩
theorem turn_enumT {P : Program} {w : World} {K : PySem.W.Frag} {elts : List Expr} {kk : Nat} {tpos : Pos} (a e it : Addr) :
    Turn P w K (.Tuple elts kk tpos) (Iteu K a) [e, it] e (fun i h => (∃ old, IsEnum h e it ((i : Nat) : Int) old) ∧ h.IsTupleIter it a i ∧ e ≠ it) where
  mem := by simp
  obj := fun i h st b hb => by
    obtain ⟨⟨old, he⟩, ⟨o, ho, hc, hd⟩, _⟩ := st
    have hb2 : b = e ∨ b = it := by simpa using hb
    rcases hb2 with z | z
    · rw [z]
      exact ⟨_, he, fun v q => nomatch q⟩
    · rw [z]
      exact ⟨o, ho, fun v q => by rw [hd] at q; cases q⟩
  keep := fun i h h' st k => let ⟨⟨old, he⟩, hi, hne⟩ := st; ⟨⟨old, k e (by simp) _ he⟩, hi.at fun o q => k it (by simp) o q, hne⟩
  item := by
    intro X hP hw hK hc i pins s σ H E I hf st hg
    subst hP hw hK
    obtain ⟨⟨old, he⟩, hit, hne⟩ := st
    obtain ⟨xs, x, hq, hx⟩ := hg
    obtain ⟨its, rv, p, hz⟩ := I.tuple hq
    obtain ⟨u, hu, ru⟩ := rv.get hx
    have hel : e < s.heap.objs.size := Heap.lt_size he
    have hil : it < s.heap.objs.size := by
      obtain ⟨_, q, _⟩ := hit
      exact Heap.lt_size q
    have pT : s.heap.IsTuple a its.toArray := p
    have hea : e ≠ a := fun z => by
      obtain ⟨o, ho, hc, n, hd⟩ := pT
      rw [← z, he] at ho
      cases ho
      cases hd
    have hita : a ≠ it := fun z => by
      obtain ⟨o, ho, hc, n, hd⟩ := pT
      obtain ⟨o', ho', hc', hd'⟩ := hit
      rw [z, ho'] at ho
      cases ho
      rw [hd'] at hd
      cases hd
    have hlt : i < its.toArray.size := by
      rw [List.size_toArray]
      exact (List.getElem?_eq_some_iff.mp hu).1
    refine wpAny_pyNext_enum_itemC (Draws.tuple (prog := X.prog) (w := X.w) (A := X.A.in1) (I.ok.hd hc) it a hita its.toArray) he ⟨hit, pT⟩ hlt hne (by simp [hne, hea]) fun y h' tk hy ho hit' hT hsz hk => ?_
    have hy' : y = u := by
      have q : its.toArray[i]? = some y := hy
      rw [List.getElem?_toArray, hu] at q
      exact (Option.some.inj q).symm
    subst hy'
    refine ⟨_, rfl, wpAny_letOwnedTupleGo_enum (s := { s with heap := h', toks := tk + 1 }) ho fun h2 he2 sb => ?_⟩
    have hT2 : h2.get? s.heap.objs.size = some { cls := .type "tuple", data := .seq #[.int i tk, y] } := (sb.2 _ (Nat.ne_of_gt hel)).trans hT
    have new : ObjOk X.prog X.w (upd H s.heap.objs.size (.tup [.int (i : Nat), x])) h2 s.heap.objs.size (.tup [.int (i : Nat), x]) :=
      ⟨by show 2 ≤ sizeLine; decide, [.int i tk, y], .cons ⟨_, rfl⟩ (.cons ru .nil), ⟨_, hT2, rfl, _, rfl⟩⟩
    have I1 : Inv X pins σ (upd H s.heap.objs.size (.tup [.int (i : Nat), x])) { s with heap := h2, toks := tk + 1 } :=
      I.turnedNew (ch := [e, it]) (fun b ob hb q => (sb.2 b (fun z => hb (by simp [z]))).trans (hk b ob (fun z => hb (by simp [z])) (fun z => hb (by simp [z])) q)) hf (Nat.le_refl _) new
    refine ⟨.ref s.heap.objs.size, _, I1, rfl, ⟨_, x, rfl, I.hok.fresh (Nat.le_refl _), rfl, fun ys hy => by rw [I.tuple_inj hy hq]; exact hx⟩, ⟨⟨y, ?_⟩, hit'.1.at fun o q => (sb.2 it (Ne.symm hne)).trans q, hne⟩, fun b hb => ?_⟩
    · have e1 : ((i + 1 : Nat) : Int) = (i : Int) + 1 := by omega
      rw [e1]
      exact he2
    · have hb2 : b < s.heap.objs.size := by
        have e' : b = e ∨ b = it := by simpa using hb
        rcases e' with z | z
        · rw [z]; exact hel
        · rw [z]; exact hil
      rw [upd_ne (Nat.ne_of_lt hb2)]
      exact (hf b hb).1
  done := by
    intro X hP hw hK hc i pins s σ H E I hf st hg
    subst hP hw hK
    obtain ⟨⟨old, he⟩, hit, hne⟩ := st
    obtain ⟨xs, hq, hx⟩ := hg
    obtain ⟨its, rv, p, hz⟩ := I.tuple hq
    obtain ⟨f0, f1, f2, f3, f4, f5⟩ := hf it (by simp)
    have hl := rv.length
    have pT : s.heap.IsTuple a its.toArray := p
    have hita : a ≠ it := fun z => by
      obtain ⟨o, ho, hc, n, hd⟩ := pT
      obtain ⟨o', ho', hc', hd'⟩ := hit
      rw [z, ho'] at ho
      cases ho
      rw [hd'] at hd
      cases hd
    have D := (Draws.tuple (prog := X.prog) (w := X.w) (A := X.A.in1) (I.ok.hd hc) it a hita its.toArray)
    have hn : i = its.toArray.size := by
      rw [List.size_toArray, ← hl]
      exact hx.symm
    exact wpAny_pyNext_enum_endD D he (by rw [← hn]; exact ⟨hit, pT⟩) fun h' eb => ⟨rfl, I.turned (t' := s.toks) (fun b o hb q => eb b o hb q) f0 f1 f3 f4 f5⟩
  self := fun A i s Q E st h => let ⟨⟨_, he⟩, _⟩ := st; wpAny_pyIter_enum he h
def iEnuT (K : PySem.W.Frag) (ta : TA) : TI := fun σ H R => ta σ H fun vs H1 => ∃ a xs, vs = [.ref a] ∧ SqT K H1 a xs ∧ R (Iteu K a) H1
theorem pi_enumT {X : Cx} {e : Expr} {ta : TA} {p pos tpos : Pos} {elts : List Expr} {kk : Nat} (hg : Gl X "enumerate") (hm : X.mg "enumerate" = none) (ha : PA X [e] ta) (hs : starEach [e] X.env = [(false, eval e X.env)] := by rfl) :
    PI X (.Tuple elts kk tpos) (.Call (.Name "enumerate" p) [e] [] pos) (iEnuT X.K ta) := by
  refine ⟨fun pins s σ H R I h => ?_⟩
  refine PyProof.Rows.Call_ (ld_blt I hg hm PyProof.Rows.boot_enumerate (PyProof.Rows.callWith_type1 (thn (ha.run pos pins s σ H _ I h) fun us s1 ⟨vs, H1, I1, r1, q1⟩ => ?_) hs rfl))
  obtain ⟨a, xs, ex, hq, q⟩ := q1
  subst ex
  rw [Vals.ref1 r1]
  obtain ⟨its, rv, p', hz⟩ := I1.tuple hq
  refine call_enumT (show s1.heap.IsTuple a its.toArray from p') fun h' he hit hk => wpAny_pyIter_enum he ?_
  have I2 : Inv X pins σ H1 { s1 with heap := h' } := I1.kept (t' := s1.toks) hk
  refine ⟨s1.heap.objs.size + 1, [s1.heap.objs.size + 1, s1.heap.objs.size], _, _, H1, rfl, I2, turn_enumT a (s1.heap.objs.size + 1) s1.heap.objs.size, ⟨⟨.none, he⟩, hit, Nat.succ_ne_self _⟩, fun b hb => ?_, q⟩
  have hb2 : b = s1.heap.objs.size + 1 ∨ b = s1.heap.objs.size := by simpa using hb
  have hle : s1.heap.objs.size ≤ b := by
    rcases hb2 with z | z
    · rw [z]; exact Nat.le_succ _
    · rw [z]; exact Nat.le_refl _
  exact I1.fpOk hle (I1.hok.fresh hle)

section
variable {X : Cx} {W : WM} {k : Nat} {pos : Pos}
def enumFr (n : Nat) : List PyData → List PyData
  | [] => []
  | d :: r => .tuple [.int (n : Int), d] :: enumFr (n + 1) r
theorem enumFr_len : ∀ (ds : List PyData) (n : Nat), (enumFr n ds).length = ds.length
  | [], _ => rfl
  | d :: r, n => by
    show (enumFr (n + 1) r).length + 1 = r.length + 1
    rw [enumFr_len r]
theorem enumFr_get : ∀ {ds : List PyData} {n i : Nat} {d : PyData}, (enumFr n ds)[i]? = some d → ∃ x, ds[i]? = some x ∧ d = .tuple [.int ((n + i : Nat) : Int), x]
  | [], _, _, _, h => by simp [enumFr] at h
  | x :: r, n, 0, d, h => ⟨x, rfl, (Option.some.inj h).symm⟩
  | x :: r, n, i + 1, d, h => by
    obtain ⟨y, h1, h2⟩ := enumFr_get (ds := r) (n := n + 1) (i := i) h
    refine ⟨y, h1, ?_⟩
    rw [h2]
    have e : n + 1 + i = n + (i + 1) := by omega
    rw [e]
theorem wk_enumT {K : PySem.W.Frag} {a : Addr} {ds : List PyData} {c : Prop} : Wk (Iteu K a) (enumFr 0 ds) c (zT a ds c) where
  go := fun D0 o H i z hi => (wk_tup (K := K)).go D0 o H i z (by rw [enumFr_len] at hi; exact hi)
  stop := fun D0 o H z => by
    obtain ⟨b, vs, e, h, r⟩ := rp_tup z.1
    cases e
    exact ⟨vs, SqT.at (co_tup (vt_le _ _ h)), by rw [enumFr_len, r.length]⟩
  yld := fun D0 S σ o H i x H' d z E hd y => by
    obtain ⟨T, y1, rfl, nT, rfl, hy⟩ := y
    obtain ⟨x2, hx2, rfl⟩ := enumFr_get hd
    obtain ⟨le, V⟩ := (wk_tup (K := K)).yld D0 S σ o H i y1 H x2 z E hx2 ⟨rfl, hy⟩
    refine ⟨Le.new nT, Val.newT E nT ⟨.cons ?_ (.cons V.1 .nil), fun hc => .cons ?_ (.cons (V.2 hc) .nil)⟩⟩
    · rw [Nat.zero_add]
      exact .int _
    · rw [Nat.zero_add]
      exact .int _
  xe := fun D0 D0' o H H' z _ l1 l2 => ⟨z.1.mono l1, fun hc => (z.2 hc).mono l2⟩
  fr := fun D0 o H o' H' hc z _ l => ⟨((z.2 hc).mono l).mono vw_le_vt, fun _ => (z.2 hc).mono l⟩
theorem wk_enumL {K : PySem.W.Frag} {a : Addr} {ds : List PyData} {c : Prop} : Wk (Ite K a) (enumFr 0 ds) c (zL a ds c) where
  go := fun D0 o H i z hi => (wk_list (K := K)).go D0 o H i z (by rw [enumFr_len] at hi; exact hi)
  stop := fun D0 o H z => by
    obtain ⟨b, vs, e, h, r⟩ := rp_lst z.1
    cases e
    exact ⟨vs, SqL.at (co_lst (vt_le _ _ h)), by rw [enumFr_len, r.length]; exact Nat.le_refl _⟩
  yld := fun D0 S σ o H i x H' d z E hd y => by
    obtain ⟨T, y1, rfl, nT, rfl, hy⟩ := y
    obtain ⟨x2, hx2, rfl⟩ := enumFr_get hd
    obtain ⟨le, V⟩ := (wk_list (K := K)).yld D0 S σ o H i y1 H x2 z E hx2 ⟨rfl, hy⟩
    refine ⟨Le.new nT, Val.newT E nT ⟨.cons ?_ (.cons V.1 .nil), fun hc => .cons ?_ (.cons (V.2 hc) .nil)⟩⟩
    · rw [Nat.zero_add]
      exact .int _
    · rw [Nat.zero_add]
      exact .int _
  xe := fun D0 D0' o H H' z _ l1 l2 => ⟨z.1.mono l1, fun hc => (z.2 hc).mono l2⟩
  fr := fun D0 o H o' H' hc z _ l => ⟨((z.2 hc).mono l).mono vw_le_vt, fun _ => (z.2 hc).mono l⟩
def wEnT (wl : WEx) : WLs := fun S A B => wl S (fun d c S1 => match d with
  | .tuple ds => A (enumFr 0 ds) (c ∨ flats ds = true) S1
  | _ => False) B
def wEnL (wl : WEx) : WLs := fun S A B => wl S (fun d c S1 => match d with
  | .list ds => A (enumFr 0 ds) c S1
  | _ => False) B
theorem si_enT {e : Expr} {p tpos : Pos} {elts : List Expr} {kk : Nat} {we : WEx} (a : At X W k) (hm : X.mg "enumerate" = none) (he : SE X W e we) (hg : Gl X "enumerate" := by rfl) (hs : starEach [e] X.env = [(false, eval e X.env)] := by rfl) :
    SI X W (.Tuple elts kk tpos) (.Call (.Name "enumerate" p) [e] [] pos) (wEnT we) := by
  obtain ⟨te, pe, se⟩ := he.ex
  refine ⟨_, pi_enumT hg hm (pa_cons pe pa_nil hs) hs, ?_⟩
  intro D0 S σ H o A B R E hw k kx
  refine se D0 S σ H o _ B _ E hw (fun d c S1 v H1 h1 E1 x1 V1 => ?_) kx
  split at h1
  · have V2 := V1.flat E1
    obtain ⟨a, vs, rfl, e, r, _⟩ := V1.titems E1
    exact ⟨a, vs, rfl, SqT.at e, k _ _ S1 _ H1 _ h1 E1 x1 wk_enumT ⟨V2.1, fun z => V2.2 (z.elim .inl fun f => .inr (by rw [flat]; exact f))⟩⟩
  · exact h1.elim
theorem si_enL {e : Expr} {p tpos : Pos} {elts : List Expr} {kk : Nat} {we : WEx} (a : At X W k) (hm : X.mg "enumerate" = none) (he : SE X W e we) (hg : Gl X "enumerate" := by rfl) (hs : starEach [e] X.env = [(false, eval e X.env)] := by rfl) :
    SI X W (.Tuple elts kk tpos) (.Call (.Name "enumerate" p) [e] [] pos) (wEnL we) := by
  obtain ⟨te, pe, se⟩ := he.ex
  refine ⟨_, pi_enum hg hm (pa_cons pe pa_nil hs) hs, ?_⟩
  intro D0 S σ H o A B R E hw k kx
  refine se D0 S σ H o _ B _ E hw (fun d c S1 v H1 h1 E1 x1 V1 => ?_) kx
  split at h1
  · obtain ⟨a, vs, rfl, e, r, _⟩ := V1.items E1
    exact ⟨a, vs, rfl, SqL.at e, k _ _ S1 _ H1 _ h1 E1 x1 wk_enumL ⟨V1.1, V1.2⟩⟩
  · exact h1.elim

/-! ### not of a list, -n, a chain as a test -/
def wNotT (wa : WEx) : WEx := fun S A B => wa S (fun d _ S1 => match d with
  | .list xs => A (.bool xs.isEmpty) True S1
  | .tuple xs => A (.bool xs.isEmpty) True S1
  | _ => False) B
theorem se_notT {a : Expr} {wa : WEx} (ha : SE X W a wa) : SE X W (.UnaryOp .Not a pos) (wNotT wa) := by
  obtain ⟨ta, pa, sa⟩ := ha.ex
  refine ⟨_, pe_notT pa, ?_⟩
  intro D0 S σ H o A B Q E hw k kx
  refine sa D0 S σ H o _ B _ E hw (fun d c S1 v H1 h1 E1 x1 V1 => ?_) kx
  split at h1
  · obtain ⟨a, vs, rfl, e, r, _⟩ := V1.items E1
    refine ⟨_, .inl ⟨vs, SqL.at e, rfl⟩, ?_⟩
    rw [Bool.not_not, rp_isEmpty r]
    exact k _ _ S1 _ H1 h1 E1 x1 (Val.of (.bl _))
  · obtain ⟨a, vs, rfl, e, r, _⟩ := V1.titems E1
    refine ⟨_, .inr (.inl ⟨vs, SqT.at e, rfl⟩), ?_⟩
    rw [Bool.not_not, rp_isEmpty r]
    exact k _ _ S1 _ H1 h1 E1 x1 (Val.of (.bl _))
  · exact h1.elim
def wNeg (wa : WEx) : WEx := fun S A B => wa S (fun d _ S1 => match d with
  | .int i => A (.int (-i)) True S1
  | _ => False) B
theorem se_neg {a : Expr} {wa : WEx} (ha : SE X W a wa) : SE X W (.UnaryOp .USub a pos) (wNeg wa) := by
  obtain ⟨ta, pa, sa⟩ := ha.ex
  refine ⟨_, pe_un un_neg pa, ?_⟩
  intro D0 S σ H o A B Q E hw k kx
  refine sa D0 S σ H o _ B _ E hw (fun d c S1 v H1 h1 E1 x1 V1 => ?_) kx
  split at h1
  · cases V1.1
    exact ⟨_, rfl, k _ _ S1 _ H1 h1 E1 x1 (Val.of (.int _))⟩
  · exact h1.elim
theorem st_chain {op op' : CmpOp} {g g' : R2D} {a b c : Expr} {wa wb wc : WEx} (ho : Op2 X (compareOp op) g) (ho' : Op2 X (compareOp op') g') (ha : SE X W a wa) (hb : SE X W b wb) (hc : SE X W c wc)
    (hm : lastMarks [op, op'] [b, c] = false := by with_unfolding_all rfl) : ST X W (.Compare a [op, op'] [b, c] pos) (wB (wChain g g' wa wb wc)) := by
  obtain ⟨ta, pa, sa⟩ := ha.ex
  obtain ⟨tb, pb, sb⟩ := hb.ex
  obtain ⟨tc, pc, sc⟩ := hc.ex
  obtain ⟨r, hr, h⟩ := ho.ex
  obtain ⟨r', hr', h'⟩ := ho'.ex
  refine ⟨_, pt_chain hr hr' pa pb pc hm, ?_⟩
  intro D0 S σ H o A B Q E hw k kx
  refine sa D0 S σ H o _ B _ E hw (fun d c S1 v H1 h1 E1 x1 V1 => ?_) kx
  refine sb D0 S1 σ H1 o _ B _ E1 h1 (fun d2 c2 S2 v2 H2 h2 E2 x2 V2 => ?_) (kx.on x1)
  refine h D0 S2 σ o H2 v v2 d d2 c c2 _ _ E2 (V1.mono x2) V2 h2 fun z dz cz H3 hz le V => ?_
  have x3 := (x1.trans x2).trans (XE.of le)
  have E3 := E2.xe le
  have V2' := V2.mono (XE.of le)
  obtain ⟨b, rfl, hz⟩ := bl_rp V.1 hz
  refine ⟨b, rfl, ?_⟩
  cases b with
  | true =>
    rw [if_pos rfl] at hz ⊢
    refine sc D0 S2 σ H3 o _ B _ E3 hz (fun d4 c4 S4 v4 H4 h4 E4 x4 V4 => ?_) (kx.on x3)
    refine h' D0 S4 σ o H4 v2 v4 d2 d4 c2 c4 _ _ E4 (V2'.mono x4) V4 h4 fun z' dz' cz' H' hz' le' V' => ?_
    obtain ⟨b, rfl, hb⟩ := bl_rp V'.1 hz'
    exact ⟨b, rfl, k b S4 H' hb (E4.xe le') ((x3.trans x4).trans (XE.of le'))⟩
  | false =>
    rw [if_neg Bool.false_ne_true] at hz ⊢
    exact ⟨false, rfl, k false S2 H3 hz E3 x3⟩

/-! ### raise X(), X a class of the text without __init__ -/
structure RaiseC (K : PySem.W.Frag) (mg : Str → Option Value) (x : Str) : Prop where
  ex : ∃ C, mg x = some (.ref C) ∧ PySem.W.keepIn K (.ref C) = true ∧ PySem.W.excIn K C [.type "ValueError", .type "Exception", .type "BaseException", .type "object"] "ValueError.__new__" = true ∧
    PySem.W.subIn K (.ref C) (.type "BaseException") = some true ∧ PySem.W.typeIn K (.ref C) = some (.type "type")
theorem pmk_own0 {C : Addr} {bmB : List Value} {B newId initId : String} {x : Str} {p pos : Pos} (F : ExcBaseFacts B newId initId bmB) (q : PySem.W.excIn X.K C bmB newId = true) (gC : X.mg x = some (.ref C)) (kC : PySem.W.keepIn X.K (.ref C) = true) (r : Raises X (.ref C)) (hg : Gl X x)
    (hdb : (x == ("__debug__" : Str)) = false := by decide) : PMk X (.Call (.Name x p) [] [] pos) (fun _ H Q => Q (.ref C) none H) := by
  intro pins s σ H Q I h
  refine wpAny_Call_Name_kw (ld_glob I hg gC ?_ hdb)
  refine PySem.W.callWith_K0 I.kIn kC ?_
  show wpAny _ _ (call (.ref C) []) _ _ _
  obtain ⟨bm, N, nm, qn, bs, hdct, sn, sub, ab, col, dd, k0, k1, k2, k3, k5, mN, hC, hN, hni, T⟩ := exc_obj I.kIn q
  refine PySem.wpAny_call_exc_subT F T hC hN hni (fun h' e hm => ?_) (by show 0 ≤ sizeLine; exact Nat.zero_le _)
  exact mk_of I hm r h (I.hok.gone hm.new)
def wRaise (x : Str) : WS := fun S P => P.ex (x, []) S
theorem ss_raise {x : Str} {p cp : Pos} (a : At X W k) (R : RaiseC X.K X.mg x) (hg : Gl X x := by rfl) (hdb : (x == ("__debug__" : Str)) = false := by decide) : SS X W (.Raise (some (.Call (.Name x p) [] [] cp)) none pos) (wRaise x) := by
  obtain ⟨C, gC, kC, q, h1, h2⟩ := R.ex
  refine ⟨_, ps_raise a.calm a.tx (pmk_own0 PySem.F.excBase_ValueError q gC kC (raises_own h1 h2) hg hdb), ?_⟩
  intro D0 S σ H o P D E hw g
  exact g.ex _ _ _ _ _ _ _ hw E (Fr.refl _ _) ⟨⟨C, by rw [a.mq]; exact gC, rfl⟩, .inl ⟨rfl, rfl⟩⟩
end
end Pu

namespace Pu
open PySem L2

/-! ### the source of draws -/
def RngAt (H : Hp) (a c : Addr) : Prop := ∃ (st ix : Int) (ns : List Int), H a = some (.lst [.int st, .ref c, .int ix]) ∧ H c = some (.lst (ns.map V.int)) ∧ ns.length ≤ 63
/-- all but a and c stands -/
def But (a c : Addr) (H H' : Hp) : Prop := ∀ b u, b ≠ a → b ≠ c → H b = some u → H' b = some u
/-- _law_next(h, n): a number below n -/
def spNext : Sp := fun vs H Q _ => ∃ (a c : Addr) (n : Int), vs = [.ref a, .int n] ∧ a ≠ c ∧ RngAt H a c ∧ 1 ≤ n ∧ n ≤ 10 ^ 31 ∧ ∀ r H', 0 ≤ r → r < n → But a c H H' → RngAt H' a c → Q (.int r) H'
/-- _law_mix(script, seed) -/
def spMix (K : PySem.W.Frag) : Sp := fun vs H Q _ => ∃ (a : Addr) (ns : List Int) (seed : Int), vs = [.ref a, .int seed] ∧ SqL K H a (ns.map V.int) ∧ ns.length ≤ 63 ∧
  ∀ p c H', H p = none → H c = none → p ≠ c → Le H H' → RngAt H' p c → Q (.ref p) H'
def orng (a c : Addr) (i : Nat) (o : Ow) : Ow := fun b => if b = a ∨ b = c then some (i, true) else o b

section
variable {X : Cx} {W : WM} {k : Nat} {pos : Pos}
theorem rng_of {H : Hp} {a c : Addr} {st ix : Int} {ns : List Int} (h1 : co H a = some (.lst [.int st, .ref c, .int ix])) (h2 : co H c = some (.lst (ns.map V.int))) (h3 : ns.length ≤ 63) : RngAt H a c := ⟨st, ix, ns, co_lst h1, co_lst h2, h3⟩
theorem RngAt.co {H : Hp} {a c : Addr} (h : RngAt H a c) : ∃ (st ix : Int) (ns : List Int), Pu.co H a = some (.lst [.int st, .ref c, .int ix]) ∧ Pu.co H c = some (.lst (ns.map V.int)) ∧ ns.length ≤ 63 := by
  obtain ⟨st, ix, ns, h1, h2, h3⟩ := h
  exact ⟨st, ix, ns, co_of h1, co_of h2, h3⟩
theorem nf_orng {H : Hp} {a c : Addr} {i : Nat} (rg : RngAt H a c) : ∀ b p u, orng a c i (fun _ => none) b = some p → H b = some u → isFrz u = false := fun b p u e h => by
  obtain ⟨st, ix, ns, r1, r2, r3⟩ := rg
  unfold orng at e
  split at e
  · rename_i hb
    rcases hb with hb | hb
    · subst hb; rw [r1] at h; cases h; rfl
    · subst hb; rw [r2] at h; cases h; rfl
  · cases e
/-- the frame's source of draws has turned -/
theorem Env.turn {D0 : Addr → Bool} {S : Slots} {σ : St} {H H' : Hp} {o : Ow} {a c : Addr} {i : Nat} (E : Env D0 S σ H o) (ha : o a = some (i, true)) (hc : o c = some (i, true)) (hi : S[i]? = some (.rng a c)) (hσ : σ[i]? = some (some (.ref a))) (hac : a ≠ c) (b : But a c H H') (r : RngAt H' a c) :
    Env D0 S σ H' o ∧ XE o H H' := by
  have x : XE o H H' := fun d u m e => b d u (fun z => by rw [z, ha] at m; cases m) (fun z => by rw [z, hc] at m; cases m) e
  obtain ⟨st, ix, ns, r1, r2, r3⟩ := r.co
  have cx : ∀ d u, d ≠ a → d ≠ c → co H d = some u → co H' d = some u := fun d u n1 n2 h => by
    unfold co at h ⊢
    cases z : H d with
    | none => rw [z] at h; cases h
    | some y => rw [b d y n1 n2 z]; rw [z] at h; exact h
  refine ⟨⟨E.len, fun d p e => ?_, fun d e => ?_, fun j s e => ?_, fun d p u e h1 => ?_⟩, x⟩
  · obtain ⟨h1, u, h2, h3⟩ := E.live d p e
    refine ⟨h1, ?_⟩
    by_cases n1 : d = a
    · subst n1; exact ⟨_, r1, rfl⟩
    · by_cases n2 : d = c
      · subst n2; exact ⟨_, r2, rfl⟩
      · exact ⟨u, cx _ _ n1 n2 h2, h3⟩
  · obtain ⟨u, h2, h3⟩ := E.dead d e
    have n1 : d ≠ a := fun z => by rw [z, (E.live a _ ha).1] at e; cases e
    have n2 : d ≠ c := fun z => by rw [z, (E.live c _ hc).1] at e; cases e
    exact ⟨u, cx _ _ n1 n2 h2, h3⟩
  · by_cases z : j = i
    · subst z
      rw [hi] at e
      cases e
      exact ⟨st, ix, ns, hσ, ha, hc, hac, r1, r2, r3⟩
    · have ne : ∀ {d : Addr} {b : Bool}, o d = some (j, b) → d ≠ a ∧ d ≠ c := fun {d b} e => ⟨fun q => (by rw [q, ha] at e; cases e; exact z rfl), fun q => (by rw [q, hc] at e; cases e; exact z rfl)⟩
      exact (E.sl j s e).move x.vw fun d b u h1 h2 => ⟨h1, cx _ _ (ne h1).1 (ne h1).2 h2⟩
  · obtain ⟨st, ix, ns, r1, r2, r3⟩ := r
    by_cases n1 : d = a
    · subst n1; rw [r1] at h1; cases h1; rfl
    · by_cases n2 : d = c
      · subst n2; rw [r2] at h1; cases h1; rfl
      · obtain ⟨u', h2, h3⟩ := E.at_ e
        rw [b d u' n1 n2 h2] at h1
        cases h1
        exact h3
/-- _law_next(h, e) -/
def wDraw (i : Nat) (we : WEx) : WEx := fun S A B => ∃ a c, S[i]? = some (.rng a c) ∧ we S (fun d _ S1 => match d with
  | .int n => S1[i]? = some (.rng a c) ∧ 1 ≤ n ∧ n ≤ 10 ^ 31 ∧ ∀ r, 0 ≤ r → r < n → A (.int r) True S1
  | _ => False) B
theorem se_draw {j : Nat} (i : Nat) {x : Str} {p q : Pos} {e : Expr} {we : WEx} (a : At X W k) (F : Def X.prog X.w X.K X.mg X.base j "_law_next" 2 spNext) (hj : j ≤ k) (he : SE X W e we) (hN : X.N[i]? = some x := by rfl) (hv : Vis X.env.scope x := by first | exact Or.inl rfl | exact Or.inr (Or.inl rfl) | exact Or.inr (Or.inr rfl))
    (hd : (x == ("__debug__" : Str)) = false := by decide) (hcd : (x == ("__classdict__" : Str)) = false := by decide) (hg : Gl X "_law_next" := by rfl)
    (hst : starEach [.Name x q, e] X.env = (false, eval (.Name x q) X.env) :: starEach [e] X.env := by rfl) (hst2 : starEach [e] X.env = (false, eval e X.env) :: starEach [] X.env := by rfl) (hpl : (backTo pos (starEach [e] X.env)).any (·.1) = false := by rfl) :
    SE X W (.Call (.Name "_law_next" p) [.Name x q, e] [] pos) (wDraw i we) := by
  obtain ⟨te, pe, se⟩ := he.ex
  obtain ⟨f, fd, ps, G, hm, hk, hb, hps⟩ := F.ex
  refine ⟨_, pe_callS G (a.room.mono hj) hg hm hk hb a.tk (pa_cons (pe_var hN hv hd hcd) (pa_cons pe pa_nil hst2) hst) (by decide) hst hpl, ?_⟩
  intro D0 S σ H o A B Q E hw kk kx
  obtain ⟨ra, rc, h0, hw⟩ := hw
  obtain ⟨st, ix, ns, h1, h2, h3, h4, h5, h6, h7⟩ := E.sl i _ h0
  refine ⟨.ref ra, h1, se D0 S σ H o _ B _ E hw (fun d c S1 v H1 h8 E1 x1 V1 => ?_) kx⟩
  split at h8
  · obtain ⟨g1, g2, g3, g4⟩ := h8
    cases V1.1
    obtain ⟨st', ix', ns', m1, m2, m3, m4, m5, m6, m7⟩ := E1.sl i _ g1
    refine ⟨ra, rc, _, rfl, m4, rng_of m5 m6 m7, g2, g3, fun r H' r0 rn bt rg => ?_⟩
    obtain ⟨E2, x2⟩ := E1.turn m2 m3 g1 h1 m4 bt rg
    exact kk _ _ S1 _ H' (g4 r r0 rn) E2 (x1.trans x2) (Val.of (.int _))
  · exact h8.elim

/-! ### defs whose first parameter is the source of draws -/
def spOfR (mg : Str → Option Value) (n : Nat) (sp : Spc) : Sp := fun vs H Q E => ∃ (a c : Addr) (us : List V) (ds : List PyData) (D0 : Addr → Bool) (A : PyData → Prop) (B : XC → Prop), vs = .ref a :: us ∧ a ≠ c ∧ RngAt H a c ∧ ds.length = n ∧
  D0 a = false ∧ D0 c = false ∧ (∀ b, D0 b = true → ∃ u, co H b = some u ∧ isTup u = false) ∧ RpAll (vw D0 (orng a c 0 fun _ => none) (co H)) us ds ∧ sp ds A B ∧
  (∀ d v H', A d → But a c H H' → RngAt H' a c → Rp (vw D0 (orng a c 0 fun _ => none) (co H')) v d → Q v H') ∧ (∀ x cls dd H', B x → But a c H H' → RngAt H' a c → XOk mg H' x cls dd → E cls dd H')
theorem spOfR_len {mg : Str → Option Value} {n : Nat} {sp : Spc} {vs : List V} {H : Hp} {Q : VK} {E : XK} (h : spOfR mg n sp vs H Q E) : vs.length = n + 1 := by
  obtain ⟨a, c, us, ds, D0, A, B, rfl, _, _, h1, _, _, _, h2, _⟩ := h
  rw [List.length_cons, h2.length, h1]
def wCallR (i : Nat) (sp : Spc) (wa : WLs) : WEx := fun S A B => ∃ a b, S[i]? = some (.rng a b) ∧ wa S (fun ds c S1 => S1[i]? = some (.rng a b) ∧ sp ds (fun d => A d c S1) (fun x => B x S1)) B
theorem vw_borrow {D0 : Addr → Bool} {o : Ow} {C : Hp} {a c : Addr} {p q : Nat × Bool} (ha : o a = some p) (hc : o c = some q) :
    vw (fun b => (D0 b || (o b).isSome) && !decide (b = a) && !decide (b = c)) (orng a c 0 fun _ => none) C = vw D0 o C := by
  funext b
  unfold vw orng
  by_cases z1 : b = a
  · subst z1; simp [ha]
  · by_cases z2 : b = c
    · subst z2; simp [hc]
    · simp [z1, z2]
theorem vt_borrow {D0 : Addr → Bool} {o : Ow} {C : Hp} {a c : Addr} {i : Nat} (ha : o a = some (i, true)) (hc : o c = some (i, true)) :
    vw (fun b => (D0 b || mutO (o b)) && !decide (b = a) && !decide (b = c)) (orng a c 0 fun _ => none) C = vt D0 o C := by
  funext b
  unfold vw vt orng
  by_cases z1 : b = a
  · subst z1; simp [ha, mutO]
  · by_cases z2 : b = c
    · subst z2; simp [hc, mutO]
    · simp [z1, z2]
theorem se_callR {j n : Nat} (i : Nat) {sp : Spc} {x y : Str} {p q : Pos} {es : List Expr} {wa : WLs} (a : At X W k) (F : Def X.prog X.w X.K X.mg X.base j y (n + 1) (spOfR X.mg n sp)) (hj : j ≤ k) (ha : SA X W es wa) (hN : X.N[i]? = some x := by rfl) (hv : Vis X.env.scope x := by first | exact Or.inl rfl | exact Or.inr (Or.inl rfl) | exact Or.inr (Or.inr rfl))
    (hd : (x == ("__debug__" : Str)) = false := by decide) (hcd : (x == ("__classdict__" : Str)) = false := by decide) (hg : Gl X y := by rfl) (hdb : (y == ("__debug__" : Str)) = false := by decide)
    (hst : starEach (.Name x q :: es) X.env = (false, eval (.Name x q) X.env) :: starEach es X.env := by rfl) (hpl : (backTo pos (starEach es X.env)).any (·.1) = false := by rfl) (hn : es.length = n := by rfl) :
    SE X W (.Call (.Name y p) (.Name x q :: es) [] pos) (wCallR i sp wa) := by
  obtain ⟨ta, pa, sa⟩ := ha.ex
  obtain ⟨f, fd, ps, G, hm, hk, hb, hps⟩ := F.ex
  refine ⟨_, pe_callS G (a.room.mono hj) hg hm hk hb a.tk (pa_cons (pe_var hN hv hd hcd) pa hst) hdb hst hpl, ?_⟩
  intro D0 S σ H o A B Q E hw kk kx
  obtain ⟨ra, rc, h0, hw⟩ := hw
  obtain ⟨st, ix, ns, h1, h2, h3, h4, h5, h6, h7⟩ := E.sl i _ h0
  refine ⟨.ref ra, h1, sa D0 S σ H o _ B _ E hw (fun ds c S1 vs H1 hl h8 E1 x1 V1 => ?_) kx⟩
  obtain ⟨g1, h8⟩ := h8
  obtain ⟨st', ix', ns', m1, m2, m3, m4, m5, m6, m7⟩ := E1.sl i _ g1
  have ends : ∀ H', But ra rc H1 H' → RngAt H' ra rc → Env D0 S1 σ H' o ∧ XE o H1 H' := fun H' bt rg => E1.turn m2 m3 g1 h1 m4 bt rg
  have ex : ∀ x cls dd H', B x S1 → But ra rc H1 H' → RngAt H' ra rc → XOk X.mg H' x cls dd → W.w cls dd σ H' := fun x cls dd H' hx bt rg ok => by
    obtain ⟨E2, x2⟩ := ends H' bt rg
    exact kx x S1 cls dd H' hx E2 (x1.trans x2) (by rw [a.mq]; exact ok)
  by_cases hc : c
  · refine ⟨ra, rc, vs, ds, fun b => (D0 b || (o b).isSome) && !decide (b = ra) && !decide (b = rc), _, _, rfl, m4, rng_of m5 m6 m7, hl.trans hn, by simp, by simp, fun b hb => E1.deadV b (by simp at hb; simpa using hb.1.1), by rw [vw_borrow m2 m3]; exact V1.2 hc, h8, fun d v H' hd bt rg r => ?_, ex⟩
    obtain ⟨E2, x2⟩ := ends H' bt rg
    rw [vw_borrow m2 m3] at r
    exact kk d c S1 v H' hd E2 (x1.trans x2) ⟨r.mono vw_le_vt, fun _ => r⟩
  · refine ⟨ra, rc, vs, ds, fun b => (D0 b || mutO (o b)) && !decide (b = ra) && !decide (b = rc), _, _, rfl, m4, rng_of m5 m6 m7, hl.trans hn, by simp, by simp, fun b hb => E1.deadM b (by simp at hb; simpa using hb.1.1), by rw [vt_borrow m2 m3]; exact V1.1, h8, fun d v H' hd bt rg r => ?_, ex⟩
    obtain ⟨E2, x2⟩ := ends H' bt rg
    rw [vt_borrow m2 m3] at r
    exact kk d c S1 v H' hd E2 (x1.trans x2) ⟨r, fun z => absurd z hc⟩
theorem env_startR {D0 : Addr → Bool} {N : List Str} {us : List V} {ds : List PyData} {H : Hp} {a c : Addr} (hac : a ≠ c) (rg : RngAt H a c) (d1 : D0 a = false) (d2 : D0 c = false) (hd : ∀ b, D0 b = true → ∃ u, co H b = some u ∧ isTup u = false) (r : RpAll (vw D0 (orng a c 0 fun _ => none) (co H)) us ds) (hN : 1 ≤ N.length) :
    Env D0 (.rng a c :: startS (N.length - 1) ds) (L2.start N (.ref a :: us)) H (orng a c 0 fun _ => none) := by
  obtain ⟨st, ix, ns, r1, r2, r3⟩ := rg.co
  have es : L2.start N (.ref a :: us) = some (.ref a) :: (us.map some ++ List.replicate (N.length - 1 - us.length) none) := by
    unfold L2.start
    rw [List.map_cons, List.cons_append, List.length_cons]
    have e : N.length - (us.length + 1) = N.length - 1 - us.length := by omega
    rw [e]
  refine ⟨?_, fun b p e => ?_, hd, fun i s e => ?_, nf_orng rg⟩
  · rw [es]
    unfold startS
    simp [r.length]
  · unfold orng at e
    split at e
    · rename_i hb
      rcases hb with hb | hb
      · subst hb; exact ⟨d1, _, r1, rfl⟩
      · subst hb; exact ⟨d2, _, r2, rfl⟩
    · cases e
  · rw [es]
    cases i with
    | zero =>
      cases e
      exact ⟨st, ix, ns, rfl, if_pos (.inl rfl), if_pos (.inr rfl), hac, r1, r2, r3⟩
    | succ i =>
      rw [List.getElem?_cons_succ] at e ⊢
      unfold startS at e
      by_cases hi : i < ds.length
      · rw [List.getElem?_append_left (by simpa using hi), List.getElem?_map, List.getElem?_eq_getElem hi] at e
        cases e
        obtain ⟨v, h1, h2⟩ := r.get (List.getElem?_eq_getElem hi)
        refine ⟨v, ?_, h2⟩
        rw [List.getElem?_append_left (by simpa [r.length] using hi), List.getElem?_map, h1]
        rfl
      · rw [List.getElem?_append_right (by simpa using hi), List.getElem?_replicate] at e
        split at e
        · cases e
          trivial
        · cases e
section
variable {P : Program} {w : World} {K : PySem.W.Frag} {mg : Str → Option Value} {base : Heap}
/-- THE RULE for a def whose first parameter is the source of draws -/
theorem def_okR {x : Str} {st : Stmt} {f : Addr} {fd : FuncData} {N ps : List Str} {k : Nat} {sp : Spc} (F : Fun K x x st f fd) (S : FnScope N ps (defScope st)) (hp : 1 ≤ ps.length) (hN : 1 ≤ N.length)
    (hb : ∀ (cdv : Value) (A : Around) (outer : List PySem.Env) (s : Shared) (H : Hp) (E : XK), At (cxOf (L2.CX P w) P w K mg base N x (defScope st) f cdv A outer s H E) ⟨mg, fun cls d _ H' => E cls d H'⟩ k →
      ∃ wb, SSs (cxOf (L2.CX P w) P w K mg base N x (defScope st) f cdv A outer s H E) ⟨mg, fun cls d _ H' => E cls d H'⟩ (defBody st) wb ∧
        ∀ ds A B a c, ds.length = ps.length - 1 → sp ds A B → wb (.rng a c :: startS (N.length - 1) ds) ⟨fun S => S[0]? = some (.rng a c) ∧ A .none, fun d _ S => S[0]? = some (.rng a c) ∧ A d, fun _ => False, fun _ => False, fun x S => S[0]? = some (.rng a c) ∧ B x⟩) :
    FnOk P w K mg base (L2.CX P w) (k + 1) f fd ps (spOfR mg (ps.length - 1) sp) := by
  refine F.okX S (fun vs H Q E h => by rw [spOfR_len h]; omega) (fun cdv A outer s H vs Q E hr h => ?_)
  obtain ⟨a, c, us, ds, D0, A', B', rfl, hac, rg, hl, d1, d2, hd, r, hsp, hA, hB⟩ := h
  have at_ : At (cxOf (L2.CX P w) P w K mg base N x (defScope st) f cdv A outer s H E) ⟨mg, fun cls d _ H' => E cls d H'⟩ k := ⟨hr, rfl, takes_of rfl rfl rfl rfl, rfl, S.nd, passes_of rfl⟩
  obtain ⟨wb, hp, hw⟩ := hb cdv A outer s H E at_
  obtain ⟨t, pt, st'⟩ := hp.ex
  refine ⟨t, pt, ?_⟩
  have bt : ∀ {H' : Hp} {o' : Ow}, Fr (orng a c 0 fun _ => none) H o' H' → But a c H H' := fun {H' o'} f b u n1 n2 e => (f b u (if_neg (fun z => z.elim n1 n2)) e).1
  have ends : ∀ {S' : Slots} {σ' : St} {H' : Hp} {o' : Ow}, S'[0]? = some (.rng a c) → Env D0 S' σ' H' o' → RngAt H' a c ∧ ∀ {v : V} {d : PyData}, Rp (vt D0 o' (co H')) v d → Rp (vw D0 (orng a c 0 fun _ => none) (co H')) v d := fun {S' σ' H' o'} hs E' => by
    obtain ⟨st1, ix1, ns1, k1, k2, k3, k4, k5, k6, k7⟩ := E'.sl 0 _ hs
    refine ⟨rng_of k5 k6 k7, fun {v d} q => q.mono fun b u e => ?_⟩
    unfold vt at e
    unfold vw orng
    split at e
    · cases e
    · rename_i hn
      have n1 : b ≠ a := fun z => hn (by rw [z, k2]; simp [mutO])
      have n2 : b ≠ c := fun z => hn (by rw [z, k3]; simp [mutO])
      have n3 : D0 b = false := by
        cases q : D0 b with
        | false => rfl
        | true => exact absurd (by rw [q, Bool.true_or]) hn
      have n4 : (if b = a ∨ b = c then some (0, true) else (none : Option (Nat × Bool))) = none := if_neg (fun z => z.elim n1 n2)
      show (if (D0 b || (if b = a ∨ b = c then some (0, true) else (none : Option (Nat × Bool))).isSome) = true then none else co H' b) = some u
      rw [n3, n4]
      exact e
  exact st' D0 _ _ H _ _ _ (env_startR hac rg d1 d2 hd r hN) (hw ds A' B' a c hl hsp)
    ⟨fun S' σ' H' o' h E' f => hA _ _ _ h.2 (bt f) (ends h.1 E').1 .non, fun _ _ _ _ h => h.elim, fun _ _ _ _ h => h.elim,
      fun d c' S' v σ' H' o' h E' f V => hA _ _ _ h.2 (bt f) (ends h.1 E').1 ((ends h.1 E').2 V.1), fun x S' σ' cls dd H' o' h E' f ok => hB x cls dd H' h.2 (bt f) (ends h.1 E').1 ok⟩
/-- law's: a list of at most 63 ints is handed in, True comes out -/
def spLaw (K : PySem.W.Frag) : Sp := fun vs H Q _ => ∃ (a : Addr) (ns : List Int), vs = [.ref a] ∧ SqL K H a (ns.map V.int) ∧ ns.length ≤ 63 ∧ ∀ H', Q (.bl true) H'
/-- THE RULE for law: h = _law_mix(script, seed), then the rest -/
theorem law_ok {st : Stmt} {f : Addr} {fd : FuncData} {N : List Str} {k i : Nat} {seed : Int} (F : Fun K "law" "law" st f fd) (S : FnScope N ["_law_script"] (defScope st)) (hi : i < N.length)
    (hb : ∀ (cdv : Value) (A : Around) (outer : List PySem.Env) (s : Shared) (H : Hp) (E : XK), At (cxOf (L2.CX P w) P w K mg base N "law" (defScope st) f cdv A outer s H E) ⟨mg, fun cls d _ H' => E cls d H'⟩ k →
      ∃ s1 rest WX wb, defBody st = s1 :: rest ∧ PS (cxOf (L2.CX P w) P w K mg base N "law" (defScope st) f cdv A outer s H E) s1 (tAsg (tCallS (spMix K) WX (tCons (tVar 0) (tCons (tC (.int seed)) tNil))) (gName i)) ∧
        SSs (cxOf (L2.CX P w) P w K mg base N "law" (defScope st) f cdv A outer s H E) ⟨mg, fun cls d _ H' => E cls d H'⟩ rest wb ∧
        ∀ a c, wb ((List.replicate N.length Slot.un).set i (.rng a c)) ⟨fun _ => False, fun d _ _ => d = .bool true, fun _ => False, fun _ => False, fun _ _ => False⟩) :
    FnOk P w K mg base (L2.CX P w) (k + 1) f fd ["_law_script"] (spLaw K) := by
  refine F.okX S (fun vs H Q E h => ?_) (fun cdv A outer s H vs Q E hr h => ?_)
  · obtain ⟨a, ns, rfl, _⟩ := h
    rfl
  · obtain ⟨a, ns, rfl, hS, hlen, q⟩ := h
    have at_ : At (cxOf (L2.CX P w) P w K mg base N "law" (defScope st) f cdv A outer s H E) ⟨mg, fun cls d _ H' => E cls d H'⟩ k := ⟨hr, rfl, takes_of rfl rfl rfl rfl, rfl, S.nd, passes_of rfl⟩
    obtain ⟨s1, rest, WX, wb, eb, p1, p2, hw⟩ := hb cdv A outer s H E at_
    obtain ⟨t, pt, st'⟩ := p2.ex
    refine ⟨_, by rw [eb]; exact pss_cons p1 pt, ?_⟩
    have hN : 0 < N.length := by omega
    have h0 : (L2.start N [.ref a])[0]? = some (some (.ref a)) := rfl
    refine ⟨.ref a, h0, a, ns, seed, rfl, hS, hlen, fun p c H' np nc hpc le rg => ?_⟩
    obtain ⟨st1, ix1, ns1, r1, r2, r3⟩ := rg.co
    have E0 : Env (fun _ => false) ((List.replicate N.length Slot.un).set i (.rng p c)) ((L2.start N [.ref a]).set i (some (.ref p))) H' (orng p c i fun _ => none) := by
      refine ⟨?_, fun b q e => ?_, fun b e => (by cases e), fun j s e => ?_, nf_orng rg⟩
      · unfold L2.start
        simp
        omega
      · unfold orng at e
        split at e
        · rename_i hb
          rcases hb with hb | hb
          · subst hb; exact ⟨rfl, _, r1, rfl⟩
          · subst hb; exact ⟨rfl, _, r2, rfl⟩
        · cases e
      · by_cases z : i = j
        · subst z
          rw [List.getElem?_set_self (by simpa using hi)] at e
          cases e
          refine ⟨st1, ix1, ns1, ?_, if_pos (.inl rfl), if_pos (.inr rfl), hpc, r1, r2, r3⟩
          rw [List.getElem?_set_self]
          unfold L2.start
          simp
          omega
        · rw [List.getElem?_set_ne z, List.getElem?_replicate] at e
          split at e
          · cases e
            trivial
          · cases e
    exact st' _ _ _ H' _ _ _ E0 (hw p c) ⟨fun _ _ _ _ h => h.elim, fun _ _ _ _ h => h.elim, fun _ _ _ _ h => h.elim,
      fun d c' S' v σ' H2 o' h E' f V => by
        have h' : d = .bool true := h
        subst h'
        cases V.1
        exact q H2, fun _ _ _ _ _ _ _ h => h.elim⟩
end
end
end Pu

namespace Pu
open PySem L2

/-! ### statements by their weakest reading -/
def tSW (W : WM) (w : WS) : TS := fun D σ H => ∃ (D0 : Addr → Bool) (S : Slots) (o : Ow) (P : En), Env D0 S σ H o ∧ w S P ∧ Goes W D0 o H P D
theorem tSW_snd {W : WM} {w : WS} : SndS W (tSW W w) w := fun D0 S σ H o P D E hw g => ⟨D0, S, o, P, E, hw, g⟩
theorem SSs.pss {X : Cx} {W : WM} {b : List Stmt} {w : WS} (h : SSs X W b w) : PSs X b (tSW W w) := by
  obtain ⟨t, p, s⟩ := h.ex
  exact ⟨fun pins sh σ H D I ⟨D0, S, o, P, E, hw, g⟩ => p.run pins sh σ H D I (s D0 S σ H o P D E hw g)⟩

section
variable {X : Cx} {W : WM} {k : Nat} {pos : Pos}

/-! ### try -/
/-- what the clause catches, by the exceptions' names -/
structure Catch (K : PySem.W.Frag) (mg : Str → Option Value) (C : Addr) (M : Str → Option Bool) : Prop where
  ok : ∀ x b, M x = some b → ∀ A, mg x = some (.ref A) → PySem.W.exmOne K (.ref A) (.ref C) = some b
def wTry (M : Str → Option Bool) (wb ws : WS) : WS := fun S P => wb S { P with ex := fun x S1 => match M x.1 with
  | some true => ws S1 { P with ex := noX }
  | some false => P.ex x S1
  | none => False }
theorem ss_try {x : Str} {C : Addr} {M : Str → Option Bool} {body suite : List Stmt} {b₀ : Stmt} {np pos' : Pos} {wb ws : WS} (a : At X W k) (hm : X.mg x = some (.ref C)) (hM : Catch X.K X.mg C M)
    (hb : ∀ (w' : WX) (pn : List (Addr × Obj)) (xe : Value → Shared → Prop), At (X.tr pn xe) ⟨X.mg, w'⟩ k → SSs (X.tr pn xe) ⟨X.mg, w'⟩ body wb)
    (hsu : ∀ (e : Addr) (oe : Obj) (pn : List (Addr × Obj)), SSs (X.suite e ((e, oe) :: pn)) (WN X.mg) (b₀ :: suite) ws)
    (hs : X.stack = X.env :: X.outer := by rfl) (hf : X.env.frame = some X.env.locals := by rfl) (hg : Gl X x := by rfl) (hdb : (x == ("__debug__" : Str)) = false := by decide) :
    SS X W (.Try body [.ExceptHandler (some (.Name x np)) none (b₀ :: suite) pos'] [] [] pos) (wTry M wb ws) := by
  refine ⟨_, ps_try_only hs hf ⟨hg, hdb, .inl hm⟩ a.tx (fun w' pn xe tk po => (hb w' pn xe ⟨a.room, a.calm, tk, rfl, a.nd, po⟩).pss) (fun e oe cls d pn _ _ => (hsu e oe pn).pss), ?_⟩
  intro D0 S σ H o P D E hw g
  refine tSW_snd D0 S σ H o _ D E hw ⟨g.nx, g.bk, g.ct, g.rt, ?_⟩
  intro y S' σ' cls dd H' o' h E' f ok
  obtain ⟨⟨A, hA, rfl⟩, hx⟩ := ok
  cases hM' : M y.1 with
  | none =>
    have h' : (match M y.1 with | some true => ws S' { P with ex := noX } | some false => P.ex y S' | none => False) := h
    rw [hM'] at h'
    exact h'.elim
  | some b =>
    have h' : (match M y.1 with | some true => ws S' { P with ex := noX } | some false => P.ex y S' | none => False) := h
    rw [hM'] at h'
    refine ⟨b, hM.ok _ _ hM' A hA, fun e a' ha' => ?_, fun e => ?_⟩
    · subst e
      have g' := g.on f
      exact tSW_snd D0 S' σ' H' o' _ D E' h' ⟨g'.nx, g'.bk, g'.ct, g'.rt, fun _ _ _ _ _ _ _ z => z.elim⟩
    · subst e
      exact g.ex y S' σ' _ dd H' o' h' E' f ⟨⟨A, by rw [a.mq]; exact hA, rfl⟩, hx⟩
/-- scalars -/
def sV : PyData → Option V
  | .none => some .non
  | .bool b => some (.bl b)
  | .int i => some (.int i)
  | .str s => some (.str s)
  | _ => none
def dV : V → Option PyData
  | .non => some .none
  | .bl b => some (.bool b)
  | .int i => some (.int i)
  | .str s => some (.str s)
  | _ => none
theorem rp_sV {G : Hp} {v : V} {d : PyData} {u : V} (r : Rp G v d) (h : sV d = some u) : v = u := by
  cases r <;> simp [sV] at h <;> exact h
theorem rp_dV {G : Hp} {v : V} {d : PyData} (h : dV v = some d) : Rp G v d := by
  cases v <;> simp [dV] at h <;> subst h <;> constructor
/-- try: .. except x as n: return n.f -/
def wTryF (x : Str) (M : Str → Option Bool) (i : Nat) (f : Str) (wb : WS) : WS := fun S P => wb S { P with ex := fun y S1 => match M y.1 with
  | some true => y.1 = x ∧ i < S1.length ∧ ∃ v d, y.2.lookup f = some v ∧ dV v = some d ∧ P.rt d True (S1.set i .un)
  | some false => P.ex y S1
  | none => False }
theorem ss_tryF {x n f : Str} {C : Addr} {M : Str → Option Bool} {body : List Stmt} {np p1 p2 p3 pos' : Pos} {wb : WS} (i : Nat) (a : At X W k) (hm : X.mg x = some (.ref C)) (hM : Catch X.K X.mg C M) (T : XfC X.K C) (hno : PySem.W.findIn X.K (.ref C) f = some none)
    (hb : ∀ (w' : WX) (pn : List (Addr × Obj)) (xe : Value → Shared → Prop), At (X.tr pn xe) ⟨X.mg, w'⟩ k → SSs (X.tr pn xe) ⟨X.mg, w'⟩ body wb)
    (hi : X.N[i]? = some n := by rfl) (hln : X.env.kindOf n = some .local := by rfl) (hv : Vis X.env.scope n := by first | exact Or.inl rfl | exact Or.inr (Or.inl rfl) | exact Or.inr (Or.inr rfl)) (hd : (n == ("__debug__" : Str)) = false := by decide) (hcd : (n == ("__classdict__" : Str)) = false := by decide)
    (hab : attributeBase (.Name n p1) f X.env (eval (.Name n p1) X.env) = eval (.Name n p1) X.env := by rfl)
    (hs : X.stack = X.env :: X.outer := by rfl) (hf : X.env.frame = some X.env.locals := by rfl) (hg : Gl X x := by rfl) (hdb : (x == ("__debug__" : Str)) = false := by decide) :
    SS X W (.Try body [.ExceptHandler (some (.Name x np)) (some n) [.Return (some (.Attribute (.Name n p1) f p2)) p3] pos'] [] [] pos) (wTryF x M i f wb) := by
  refine ⟨_, ps_try_as (i := i) (ts := fun e cls d => tRet (tXf e cls d C f (tVar i))) hs hf a.nd hi hln ⟨hg, hdb, .inl hm⟩ a.tx (fun w' pn xe tk po => (hb w' pn xe ⟨a.room, a.calm, tk, rfl, a.nd, po⟩).pss)
    (fun e oe cls d pn hz hvs => pss_one (ps_ret (pe_xf T hno hz hvs (pe_var (X := X.suite e ((e, oe) :: pn)) hi hv hd hcd) hab))), ?_⟩
  intro D0 S σ H o P D E hw g
  refine tSW_snd D0 S σ H o _ D E hw ⟨g.nx, g.bk, g.ct, g.rt, ?_⟩
  intro y S' σ' cls dd H' o' h E' f' ok
  obtain ⟨⟨A, hA, rfl⟩, hx⟩ := ok
  have h' : (match M y.1 with | some true => y.1 = x ∧ i < S'.length ∧ ∃ v d, y.2.lookup f = some v ∧ dV v = some d ∧ P.rt d True (S'.set i .un) | some false => P.ex y S' | none => False) := h
  cases hM' : M y.1 with
  | none =>
    rw [hM'] at h'
    exact h'.elim
  | some b =>
    rw [hM'] at h'
    refine ⟨b, hM.ok _ _ hM' A hA, fun e a' ha' => ?_, fun e => ?_⟩
    · subst e
      obtain ⟨ey, hlt, v, d, hl, hd', h'⟩ := h'
      have hA' : X.mg y.1 = some (.ref A) := hA
      rw [ey, hm] at hA'
      cases hA'
      have hi' : i < σ'.length := by rw [E'.len]; exact hlt
      refine ⟨.ref a', by rw [List.getElem?_set_self hi'], rfl, rfl, ?_⟩
      rcases hx with ⟨hx, _⟩ | ⟨dd', ed, hx⟩
      · rw [hx] at hl; cases hl
      · refine ⟨dd', y.2, v, ed, hx, hl, ?_⟩
        exact g.rt d True _ v _ H' o' h' (E'.un i) f' (Val.of (rp_dV hd'))
    · subst e
      exact g.ex y S' σ' _ dd H' o' h' E' f' ⟨⟨A, by rw [a.mq]; exact hA, rfl⟩, hx⟩
end
end Pu

namespace Pu
open PySem L2

/-! ### raise X(e, ..), X's own __init__ storing each argument in a field -/
def spInit (C : Addr) (fs : List Str) : Sp := fun vs H Q _ => ∃ (a : Addr) (us : List V), vs = .ref a :: us ∧ us.length = fs.length ∧ H a = some (exo a C none) ∧
  ∀ dx H', H dx = none → dx ≠ a → H' a = some (exo a C (some dx)) → H' dx = some (exd dx (fs.zip us).reverse) → (∀ b, b ≠ a → b ≠ dx → H' b = H b) → Q .non H'
structure RaiseF (P : Program) (w : World) (K : PySem.W.Frag) (mg : Str → Option Value) (base : Heap) (j : Nat) (x : Str) (fs : List Str) : Prop where
  ex : ∃ (C fI : Addr) (fd : FuncData), mg x = some (.ref C) ∧ OexC K C ∧ PySem.W.findIn K (.ref C) "__init__" = some (some (.ref fI)) ∧ PySem.W.typeIn K (.ref fI) = some (.type "function") ∧
    FnOk P w K mg base (L2.CX P w) j fI fd ("self" :: fs) (spInit C fs) ∧ Binds K fd ("self" :: fs) []
def sVs : List PyData → Option (List V)
  | [] => some []
  | d :: r => match sV d, sVs r with
    | some v, some vs => some (v :: vs)
    | _, _ => none
theorem rp_sVs {G : Hp} : ∀ {vs : List V} {ds : List PyData} {us : List V}, RpAll G vs ds → sVs ds = some us → vs = us
  | _, _, _, .nil, h => by cases h; rfl
  | _, _, us, .cons (d := d) (ds := ds) a b, h => by
    unfold sVs at h
    split at h
    · rename_i v vs h1 h2
      cases h
      rw [rp_sV a h1, rp_sVs b h2]
    · cases h
def wRaiseF (x : Str) (fs : List Str) (wa : WLs) : WS := fun S P => wa S (fun ds _ S1 => ∃ us, sVs ds = some us ∧ P.ex (x, (fs.zip us).reverse) S1) P.ex
section
variable {X : Cx} {W : WM} {k : Nat} {pos : Pos}
theorem passes_no {X : Cx} : Passes (L2.CX X.prog X.w) X (fun _ _ _ => False) := fun pins σ H s e s' I c => passAt (W := fun _ _ _ _ => False) takes0 σ pins H s e s' I c
theorem ss_raiseF {j : Nat} {x : Str} {fs : List Str} {e : Expr} {es : List Expr} {p cp : Pos} {wa : WLs} (a : At X W k) (R : RaiseF X.prog X.w X.K X.mg X.base j x fs) (hj : j + 1 ≤ k) (ha : SA X W (e :: es) wa) (hn : (e :: es).length = fs.length := by rfl) (hl : fs.length ≤ 20 := by decide) (hg : Gl X x := by rfl) (hdb : (x == ("__debug__" : Str)) = false := by decide)
    (he : starEach (e :: es) X.env = (false, eval e X.env) :: starEach es X.env := by rfl) (hpl : (backTo cp (starEach es X.env)).any (·.1) = false := by rfl) : SS X W (.Raise (some (.Call (.Name x p) (e :: es) [] cp)) none pos) (wRaiseF x fs wa) := by
  obtain ⟨ta, pa, sa⟩ := ha.ex
  obtain ⟨C, fI, fd, hm, T, iC, tI, F, hb⟩ := R.ex
  refine ⟨_, ps_raise a.calm a.tx (pmk_oex T iC tI F (a.room.mono hj) hb .nil passes_no hg hm pa hdb he hpl), ?_⟩
  intro D0 S σ H o P D E hw g
  refine sa D0 S σ H o _ P.ex _ E hw (fun ds c S1 vs H1 hlen h1 E1 x1 V1 => ?_) g.xw
  obtain ⟨us, hu, h1⟩ := h1
  have ev := rp_sVs V1.1 hu
  subst ev
  have hlv : vs.length = fs.length := by rw [V1.1.length, hlen]; exact hn
  refine ⟨by omega, fun b hb => ⟨b, vs ++ [], rfl, by rw [List.append_nil]; exact hlv, upd_same, fun dx H' n1 n2 h2 h3 h4 => ⟨rfl, dx, _, h2, h3, ?_, ?_⟩⟩⟩
  · rw [upd_ne n2] at n1
    exact n1
  · rw [upd_ne n2] at n1
    have le : Le H1 (upd (del H' b) dx (.xd (fs.zip (vs ++ [])).reverse)) := fun q u e => by
      have q1 : q ≠ b := fun z => by rw [z, hb] at e; cases e
      have q2 : q ≠ dx := fun z => by rw [z, n1] at e; cases e
      rw [upd_ne q2, del_ne q1, h4 q q1 q2, upd_ne q1]
      exact e
    rw [List.append_nil] at *
    exact g.ex _ S1 σ _ _ _ o h1 (E1.xe le) (x1.trans (XE.of le)).fr ⟨⟨C, by rw [a.mq]; exact hm, rfl⟩, .inr ⟨dx, rfl, upd_same⟩⟩

/-! ### sum -/
def rSumT (K : PySem.W.Frag) : List V → Hp → VK → Prop := fun vs H Q => ∃ (a : Addr) (ns : List Int), vs = [V.ref a] ∧ SqT K H a (ns.map V.int) ∧ Q (.int ns.sum) H
theorem cr_sumT (hc : X.calm = true) : CallR X (.builtin "sum") (rSumT X.K) := by
  intro pins s σ H vs us Q I r h
  obtain ⟨a, ns, rfl, hs, q⟩ := h
  obtain ⟨its, rv, hl, _⟩ := I.tuple hs
  rw [Vals.ref1 r]
  have hi := rv.ints
  obtain ⟨xs, e⟩ := hi.allInts.items
  have hn : numsOf (intItems xs).toList = ns := by rw [← e]; exact hi.numsOf
  rw [nums_intItems] at hn
  rw [e] at hl
  refine PySem.W.ktm_sumG (I.ok.hd hc) hl fun h' tk t' hk => ?_
  rw [preSum_eq, List.take_of_length_le (by simp), hn]
  exact ⟨.int _, H, I.kept hk, ⟨_, rfl⟩, q⟩
def gSum : RD := fun ds _ K => match ds with
  | [.list xs] => ∃ ns, ints? xs = some ns ∧ K (.int ns.sum) True
  | [.tuple xs] => ∃ ns, ints? xs = some ns ∧ K (.int ns.sum) True
  | _ => False
theorem f_sum (a : At X W k) : Fn X (.builtin "sum") gSum := by
  refine ⟨_, CallR.or (cr_sum a.calm) (cr_sumT a.calm), ?_⟩
  intro D0 S σ o H vs ds c K Q E V hg k
  unfold gSum at hg
  split at hg
  · obtain ⟨v, rfl, U⟩ := vals1 V
    obtain ⟨a, ws, rfl, e, r, rc⟩ := U.items E
    obtain ⟨ns, hi, hg⟩ := hg
    rw [ints?_of hi] at r
    rw [r.ints] at e
    exact .inl ⟨a, ns, rfl, SqL.at e, k _ _ _ H hg (Le.refl H) (Val.of (.int _))⟩
  · obtain ⟨v, rfl, U⟩ := vals1 V
    obtain ⟨a, ws, rfl, e, r, rc⟩ := U.titems E
    obtain ⟨ns, hi, hg⟩ := hg
    rw [ints?_of hi] at r
    rw [r.ints] at e
    exact .inr ⟨a, ns, rfl, SqT.at e, k _ _ _ H hg (Le.refl H) (Val.of (.int _))⟩
  · exact hg.elim

/-! ### a, b = x, y, some of them new lists that become the frame's own -/
inductive Mi where
  | v (d : PyData)
  | l (ds : List PyData)
  | d (es : List (PyData × PyData))
def slotM : Mi → Slot
  | .v d => .im d
  | .l ds => .ol ds
  | .d es => .od es
def MiOk (D0 : Addr → Bool) (o : Ow) (H : Hp) (j : Nat) (x : V) : Mi → Prop
  | .v d => Rp (vw D0 o (co H)) x d
  | .l ds => ∃ p us, x = .ref p ∧ o p = some (j, false) ∧ H p = some (.lst us) ∧ RpAll (vw D0 o (co H)) us ds
  | .d es => ∃ p u, x = .ref p ∧ o p = some (j, false) ∧ H p = some u ∧ core u = u ∧ DOk (vw D0 o (co H)) u es
inductive MisOk (D0 : Addr → Bool) (o : Ow) (H : Hp) : List Nat → List V → List Mi → Prop
  | nil : MisOk D0 o H [] [] []
  | cons {j : Nat} {js : List Nat} {x : V} {xs : List V} {m : Mi} {ms : List Mi} : MiOk D0 o H j x m → MisOk D0 o H js xs ms → MisOk D0 o H (j :: js) (x :: xs) (m :: ms)
def FrM (o : Ow) (H : Hp) (o' : Ow) (H' : Hp) : Prop := ∀ a u, mutO (o a) = false → H a = some u → H' a = some u ∧ o' a = o a
theorem FrM.fr {o o' : Ow} {H H' : Hp} (h : FrM o H o' H') : Fr o H o' H' := fun a u n e => by
  obtain ⟨h1, h2⟩ := h a u (by rw [n]; rfl) e
  exact ⟨h1, h2.trans n⟩
theorem FrM.trans {o o1 o2 : Ow} {H H1 H2 : Hp} (a : FrM o H o1 H1) (b : FrM o1 H1 o2 H2) : FrM o H o2 H2 := fun x u m e => by
  obtain ⟨h1, h2⟩ := a x u m e
  obtain ⟨h3, h4⟩ := b x u (by rw [h2]; exact m) h1
  exact ⟨h3, h4.trans h2⟩
theorem XE.frM {o : Ow} {H H' : Hp} (h : XE o H H') : FrM o H o H' := fun a u m e => ⟨h a u m e, rfl⟩
theorem FrM.refl (o : Ow) (H : Hp) : FrM o H o H := fun _ _ _ e => ⟨e, rfl⟩
theorem frM_own {H : Hp} {o : Ow} {p : Addr} {i : Nat} {u : HO} (h : H p = none) : FrM o H (ow1 o p i) (upd H p u) := fun a x n e => by
  have ne := ne_of_none e h
  exact ⟨by rw [upd_ne ne]; exact e, if_neg ne⟩
theorem MiOk.on {D0 : Addr → Bool} {o o' : Ow} {H H' : Hp} {j : Nat} {x : V} {m : Mi} (f : FrM o H o' H') (h : MiOk D0 o H j x m) : MiOk D0 o' H' j x m := by
  cases m with
  | v d => exact h.mono f.fr.vw
  | l ds =>
    obtain ⟨p, us, h1, h2, h3, h4⟩ := h
    obtain ⟨h5, h6⟩ := f p _ (by rw [h2]; rfl) h3
    exact ⟨p, us, h1, h6.trans h2, h5, h4.mono f.fr.vw⟩
  | d es =>
    obtain ⟨p, u, h1, h2, h3, h0, h4⟩ := h
    obtain ⟨h5, h6⟩ := f p _ (by rw [h2]; rfl) h3
    exact ⟨p, u, h1, h6.trans h2, h5, h0, h4.mono f.fr.vw⟩
/-- the way out by an exception, of a statement -/
def XwF (W : WM) (D0 : Addr → Bool) (o : Ow) (H : Hp) (B : EK) : Prop := ∀ x S' σ' cls dd H' o', B x S' → Env D0 S' σ' H' o' → Fr o H o' H' → XOk W.mg H' x cls dd → W.w cls dd σ' H'
theorem XwF.xw {D0 : Addr → Bool} {σ : St} {o : Ow} {H : Hp} {B : EK} (h : XwF W D0 o H B) : Xw W D0 σ o H B := fun x S' cls dd H' hb E q ok => h x S' σ cls dd H' o hb E q.fr ok
theorem XwF.on {D0 : Addr → Bool} {o o1 : Ow} {H H1 : Hp} {B : EK} (h : XwF W D0 o H B) (f : Fr o H o1 H1) : XwF W D0 o1 H1 B := fun x S' σ' cls dd H' o' hb E q ok => h x S' σ' cls dd H' o' hb E (f.trans q) ok
abbrev WMi := Slots → (List Mi → Slots → Prop) → EK → Prop
def SndM (W : WM) (t : TA) (js : List Nat) (w : WMi) : Prop := ∀ (D0 : Addr → Bool) (S : Slots) (σ : St) (H : Hp) (o : Ow) (A : List Mi → Slots → Prop) (B : EK) (Q : List V → Hp → Prop), Env D0 S σ H o → w S A B →
  (∀ ms S' vs H' o', A ms S' → Env D0 S' σ H' o' → FrM o H o' H' → MisOk D0 o' H' js vs ms → Q vs H') → XwF W D0 o H B → t σ H Q
structure SM (X : Cx) (W : WM) (es : List Expr) (js : List Nat) (w : WMi) : Prop where
  ex : ∃ t, PA X es t ∧ SndM W t js w
def wMNil : WMi := fun S A _ => A [] S
def wMV (we : WEx) (wr : WMi) : WMi := fun S A B => we S (fun d c S1 => (c ∨ flat d = true) ∧ wr S1 (fun ms S2 => A (.v d :: ms) S2) B) B
def wMO (wo : WLs) (wr : WMi) : WMi := fun S A B => wo S (fun ds c S1 => (c ∨ flats ds = true) ∧ wr S1 (fun ms S2 => A (.l ds :: ms) S2) B) B
theorem sm_nil : SM X W [] [] wMNil := ⟨_, pa_nil, fun D0 S σ H o A B Q E hw k kx => k _ _ _ _ o hw E (FrM.refl _ _) .nil⟩
theorem sm_v (j : Nat) {e : Expr} {es : List Expr} {js : List Nat} {we : WEx} {wr : WMi} (he : SE X W e we) (hr : SM X W es js wr) (hst : starEach (e :: es) X.env = (false, eval e X.env) :: starEach es X.env := by rfl) : SM X W (e :: es) (j :: js) (wMV we wr) := by
  obtain ⟨te, pe, se⟩ := he.ex
  obtain ⟨tr, pr, sr⟩ := hr.ex
  refine ⟨_, pa_cons pe pr hst, ?_⟩
  intro D0 S σ H o A B Q E hw k kx
  refine se D0 S σ H o _ B _ E hw (fun d c S1 v H1 h1 E1 x1 V1 => ?_) kx.xw
  refine sr D0 S1 σ H1 o _ B _ E1 h1.2 (fun ms S2 vs H2 o2 h2 E2 f2 M2 => ?_) (kx.on x1.fr)
  exact k _ S2 _ H2 o2 h2 E2 (x1.frM.trans f2) (.cons (MiOk.on (m := .v d) f2 ((V1.flat E1).2 h1.1)) M2)
theorem sm_o (j : Nat) {e : Expr} {es : List Expr} {js : List Nat} {wo : WLs} {wr : WMi} (he : SO X W e wo) (hr : SM X W es js wr) (hst : starEach (e :: es) X.env = (false, eval e X.env) :: starEach es X.env := by rfl) : SM X W (e :: es) (j :: js) (wMO wo wr) := by
  obtain ⟨te, pe, se⟩ := he.ex
  obtain ⟨tr, pr, sr⟩ := hr.ex
  refine ⟨_, pa_cons pe pr hst, ?_⟩
  intro D0 S σ H o A B Q E hw k kx
  refine se D0 S σ H o _ B _ E hw (fun ds c S1 vs p H1 h1 E1 x1 hp V1 => ?_) kx.xw
  have r := V1.clean E1 h1.1
  have f1 : FrM o H (ow1 o p j) (upd H1 p (.lst vs)) := x1.frM.trans (frM_own hp)
  have E2 : Env D0 S1 σ (upd H1 p (.lst vs)) (ow1 o p j) := by
    have nw := E1.new hp
    have le : Le (co H1) (co (upd H1 p (.lst vs))) := (Le.new hp).co
    have oe : ∀ {a : Addr}, a ≠ p → ow1 o p j a = o a := fun {a} n => if_neg n
    have ne : ∀ {a : Addr} {q : Nat × Bool}, o a = some q → a ≠ p := fun {a q} e z => by rw [z, nw.2] at e; cases e
    refine ⟨E1.len, fun a q e => ?_, fun a e => ?_, fun i s e => ?_, nf_own E1 hp rfl⟩
    · by_cases z : a = p
      · subst z
        exact ⟨nw.1, _, co_of upd_same, rfl⟩
      · rw [oe z] at e
        obtain ⟨h1, u, h2, h3⟩ := E1.live a q e
        exact ⟨h1, u, le _ _ h2, h3⟩
    · obtain ⟨u, h2, h3⟩ := E1.dead a e
      exact ⟨u, le _ _ h2, h3⟩
    · exact (E1.sl i s e).move (by rw [vw_ow hp]; exact Le.refl _) fun a b u h1 h2 => ⟨by rw [oe (ne h1)]; exact h1, le _ _ h2⟩
  refine sr D0 S1 σ _ _ _ B _ E2 h1.2 (fun ms S2 us H2 o2 h2 E3 f2 M2 => ?_) (kx.on f1.fr)
  exact k _ S2 _ H2 o2 h2 E3 (f1.trans f2) (.cons (MiOk.on (m := .l ds) f2 ⟨p, vs, rfl, if_pos rfl, upd_same, by rw [vw_ow hp]; exact r⟩) M2)
theorem Env.putM {D0 : Addr → Bool} {S : Slots} {σ : St} {H : Hp} {o : Ow} {v : V} {m : Mi} (E : Env D0 S σ H o) (i : Nat) (h : MiOk D0 o H i v m) : Env D0 (S.set i (slotM m)) (σ.set i (some v)) H o := by
  cases m with
  | v d => exact E.put i h
  | l ds =>
    obtain ⟨p, us, h1, h2, h3, h4⟩ := h
    refine ⟨by rw [List.length_set, List.length_set]; exact E.len, E.live, E.dead, fun j s e => ?_, E.nf⟩
    by_cases z : i = j
    · subst z
      have hi : i < S.length := by
        have q := (List.getElem?_eq_some_iff.mp e).1
        rw [List.length_set] at q
        exact q
      rw [List.getElem?_set_self hi] at e
      cases e
      exact ⟨p, us, by rw [List.getElem?_set_self (by rw [E.len]; exact hi), h1], h2, co_of h3, h4⟩
    · rw [List.getElem?_set_ne z] at e ⊢
      exact E.sl j s e
  | d es =>
    obtain ⟨p, u, h1, h2, h3, h0, h4⟩ := h
    refine ⟨by rw [List.length_set, List.length_set]; exact E.len, E.live, E.dead, fun j s e => ?_, E.nf⟩
    by_cases z : i = j
    · subst z
      have hi : i < S.length := by
        have q := (List.getElem?_eq_some_iff.mp e).1
        rw [List.length_set] at q
        exact q
      rw [List.getElem?_set_self hi] at e
      cases e
      have hc := co_of h3
      rw [h0] at hc
      exact ⟨p, u, by rw [List.getElem?_set_self (by rw [E.len]; exact hi), h1], h2, hc, h4⟩
    · rw [List.getElem?_set_ne z] at e ⊢
      exact E.sl j s e
def puts : List Nat → List Mi → Slots → Slots
  | i :: is, m :: ms, S => puts is ms (S.set i (slotM m))
  | _, _, S => S
def wMix (is : List Nat) (wm : WMi) : WS := fun S P => wm S (fun ms S1 => P.nx (puts is ms S1)) P.ex
theorem Goes.xwF {D0 : Addr → Bool} {o : Ow} {H : Hp} {P : En} {D : Ends} (g : Goes W D0 o H P D) : XwF W D0 o H P.ex := g.ex
theorem ss_mix2 (i j : Nat) {x y : Str} {e1 e2 : Expr} {px py pt : Pos} {kt k2 pt2} {wm : WMi} (a : At X W k) (hm : SM X W [e1, e2] [i, j] wm) (hi : X.N[i]? = some x := by rfl) (hj : X.N[j]? = some y := by rfl) (hij : i ≠ j := by decide)
    (hx : X.env.scope.names.lookup x = some .local := by rfl) (hy : X.env.scope.names.lookup y = some .local := by rfl)
    (hw : swappedStores [.Tuple [.Name x px, .Name y py] kt pt] (.Tuple [e1, e2] k2 pt2) X.env = pure (some [x, y]) := by rfl)
    (hs : swapsWithSole [.Tuple [.Name x px, .Name y py] kt pt] (.Tuple [e1, e2] k2 pt2) pos.line X.env = pure false := by rfl) :
    SS X W (.Assign [.Tuple [.Name x px, .Name y py] kt pt] (.Tuple [e1, e2] k2 pt2) pos) (wMix [i, j] wm) := by
  obtain ⟨ta, pa, sa⟩ := hm.ex
  refine ⟨_, ps_par a.calm a.nd hi hj hij hx hy pa hw hs, ?_⟩
  intro D0 S σ H o P D E hw g
  refine sa D0 S σ H o _ P.ex _ E hw (fun ms S1 vs H1 o1 h1 E1 f1 M => ?_) g.xwF
  cases M with
  | cons m1 M =>
    cases M with
    | cons m2 M =>
      cases M
      exact ⟨_, _, rfl, g.nx _ _ _ o1 h1 ((E1.putM i m1).putM j m2) f1.fr⟩
theorem ss_mix3 (i j l : Nat) {x y z : Str} {e1 e2 e3 : Expr} {px py pz pt : Pos} {kt k2 pt2} {wm : WMi} (a : At X W k) (hm : SM X W [e1, e2, e3] [i, j, l] wm) (hi : X.N[i]? = some x := by rfl) (hj : X.N[j]? = some y := by rfl) (hl : X.N[l]? = some z := by rfl) (hij : i ≠ j := by decide) (hil : i ≠ l := by decide) (hjl : j ≠ l := by decide)
    (hx : X.env.scope.names.lookup x = some .local := by rfl) (hy : X.env.scope.names.lookup y = some .local := by rfl) (hz : X.env.scope.names.lookup z = some .local := by rfl)
    (hw : swappedStores [.Tuple [.Name x px, .Name y py, .Name z pz] kt pt] (.Tuple [e1, e2, e3] k2 pt2) X.env = pure (some [x, y, z]) := by rfl)
    (hs : swapsWithSole [.Tuple [.Name x px, .Name y py, .Name z pz] kt pt] (.Tuple [e1, e2, e3] k2 pt2) pos.line X.env = pure false := by rfl) :
    SS X W (.Assign [.Tuple [.Name x px, .Name y py, .Name z pz] kt pt] (.Tuple [e1, e2, e3] k2 pt2) pos) (wMix [i, j, l] wm) := by
  obtain ⟨ta, pa, sa⟩ := hm.ex
  refine ⟨_, ps_par3 a.calm a.nd hi hj hl hij hil hjl hx hy hz pa hw hs, ?_⟩
  intro D0 S σ H o P D E hw g
  refine sa D0 S σ H o _ P.ex _ E hw (fun ms S1 vs H1 o1 h1 E1 f1 M => ?_) g.xwF
  cases M with
  | cons m1 M =>
    cases M with
    | cons m2 M =>
      cases M with
      | cons m3 M =>
        cases M
        exact ⟨_, _, _, rfl, g.nx _ _ _ o1 h1 (((E1.putM i m1).putM j m2).putM l m3) f1.fr⟩

/-! ### name = [.. for ..] -/
theorem ss_setLcO (i : Nat) {y : Str} {py : Pos} {elt tg iter : Expr} {ifs : List Expr} {scope : Scope} {own : List (Str × Nat)} {spos : Pos} {L : List Nat} {wi : WLs} {wg : WTg} {wt : WTx} {we : WEx} (a : At X W k) (hi : SI X W tg iter wi) (ok : blkC X.N X.env.scope scope own = true)
    (hg : ∀ (s : Shared) (H : Hp) (C : Addr) (cl : List (Str × Addr)) (fp : List Addr), SG (X.blk s H scope (compEnvC scope cl C X.env) fp) tg L wg)
    (ht : ∀ (s : Shared) (H : Hp) (C : Addr) (cl : List (Str × Addr)) (fp : List Addr), At (X.blk s H scope (compEnvC scope cl C X.env) fp) (WN X.mg) k → STs (X.blk s H scope (compEnvC scope cl C X.env) fp) (WN X.mg) ifs wt)
    (he : ∀ (s : Shared) (H : Hp) (C : Addr) (cl : List (Str × Addr)) (fp : List Addr), At (X.blk s H scope (compEnvC scope cl C X.env) fp) (WN X.mg) k → SE (X.blk s H scope (compEnvC scope cl C X.env) fp) (WN X.mg) elt we)
    (hL : ∀ j ∈ L, j ∈ own.map (·.2)) (hy : X.N[i]? = some y := by rfl) (hyl : X.env.scope.names.lookup y = some .local := by rfl) (hk : X.env.scope.kind = .function := by rfl) (hln : (py.line == pos.line) = true := by rfl) (ha : (scope.names.any fun (n, k) => n == y && (k == .local || k == .cell)) = false := by decide)
    (hs : ∀ x, foldedSetIterable iter X.env x = pure x := by intro _; rfl) : SS X W (.Assign [.Name y py] (.ListComp elt [⟨tg, iter, ifs, 0⟩] scope pos) spos) (wOwn i (wLc wi wg wt we (own.map (·.2)))) := by
  obtain ⟨twi, pwi, swi⟩ := hi.ex
  refine ⟨_, ps_setLc a.calm a.nd hy hyl (sw_true hk hyl hln ha) pwi (blkOk_by ok) (fun s H C cl fp => (hg s H C cl fp).pg) (fun s H C cl fp => (ht s H C cl fp (a.blk ..)).pt) (fun s H C cl fp => (he s H C cl fp (a.blk ..)).pe) hs, ?_⟩
  intro D0 S σ H o P D E hw g
  refine snd_lc swi hL D0 S σ H o _ P.ex _ E hw (fun ds c S1 vs q H1 h1 E1 x1 hq V1 => ?_) g.xw
  exact g.nx _ _ _ _ h1.2 (E1.own i hq (V1.clean E1 h1.1)) (x1.fr.trans (fr_own (D0 := D0) (S := S1) (σ := σ) hq))
theorem snd_o {t : TE} {wo : WLs} (so : SndO W t wo) : Snd W t (wO wo) := by
  intro D0 S σ H o A B Q E hw k kx
  refine so D0 S σ H o _ B _ E hw (fun ds c S1 vs p H1 h1 E1 x1 hp V1 => ?_) kx
  exact k _ _ S1 _ _ h1 (E1.xe (Le.new hp)) (x1.trans (XE.of (Le.new hp))) (Val.newL E1 hp V1)
theorem ss_setLc (i : Nat) {y : Str} {py : Pos} {elt tg iter : Expr} {ifs : List Expr} {scope : Scope} {own : List (Str × Nat)} {spos : Pos} {L : List Nat} {wi : WLs} {wg : WTg} {wt : WTx} {we : WEx} (a : At X W k) (hi : SI X W tg iter wi) (ok : blkC X.N X.env.scope scope own = true)
    (hg : ∀ (s : Shared) (H : Hp) (C : Addr) (cl : List (Str × Addr)) (fp : List Addr), SG (X.blk s H scope (compEnvC scope cl C X.env) fp) tg L wg)
    (ht : ∀ (s : Shared) (H : Hp) (C : Addr) (cl : List (Str × Addr)) (fp : List Addr), At (X.blk s H scope (compEnvC scope cl C X.env) fp) (WN X.mg) k → STs (X.blk s H scope (compEnvC scope cl C X.env) fp) (WN X.mg) ifs wt)
    (he : ∀ (s : Shared) (H : Hp) (C : Addr) (cl : List (Str × Addr)) (fp : List Addr), At (X.blk s H scope (compEnvC scope cl C X.env) fp) (WN X.mg) k → SE (X.blk s H scope (compEnvC scope cl C X.env) fp) (WN X.mg) elt we)
    (hL : ∀ j ∈ L, j ∈ own.map (·.2)) (hy : X.N[i]? = some y := by rfl) (hyl : X.env.scope.names.lookup y = some .local := by rfl) (hk : X.env.scope.kind = .function := by rfl) (hln : (py.line == pos.line) = true := by rfl) (ha : (scope.names.any fun (n, k) => n == y && (k == .local || k == .cell)) = false := by decide)
    (hs : ∀ x, foldedSetIterable iter X.env x = pure x := by intro _; rfl) : SS X W (.Assign [.Name y py] (.ListComp elt [⟨tg, iter, ifs, 0⟩] scope pos) spos) (wSet i (wO (wLc wi wg wt we (own.map (·.2))))) := by
  obtain ⟨twi, pwi, swi⟩ := hi.ex
  refine ⟨_, ps_setLc a.calm a.nd hy hyl (sw_true hk hyl hln ha) pwi (blkOk_by ok) (fun s H C cl fp => (hg s H C cl fp).pg) (fun s H C cl fp => (ht s H C cl fp (a.blk ..)).pt) (fun s H C cl fp => (he s H C cl fp (a.blk ..)).pe) hs, ?_⟩
  intro D0 S σ H o P D E hw g
  refine snd_o (snd_lc swi hL) D0 S σ H o _ P.ex _ E hw (fun d c S1 v H1 h1 E1 x1 V1 => ?_) g.xw
  exact g.nx _ _ _ _ h1.2 (E1.put i ((V1.flat E1).2 h1.1)) x1.fr

/-! ### a comparison as a test -/
theorem st_cmp {op : CmpOp} {g : R2D} {a b : Expr} {wa wb : WEx} (ho : Op2 X (compareOp op) g) (ha : SE X W a wa) (hb : SE X W b wb) (hm : behindInMarks op b = false := by first | exact nobehind _ (by decide) (by decide) | rfl) : ST X W (.Compare a [op] [b] pos) (wB (wOp g wa wb)) := by
  obtain ⟨ta, pa, sa⟩ := ha.ex
  obtain ⟨tb, pb, sb⟩ := hb.ex
  obtain ⟨r, hr, h⟩ := ho.ex
  refine ⟨_, pt_cmpR hr pa pb hm, ?_⟩
  intro D0 S σ H o A B Q E hw k kx
  refine snd_op sa sb h D0 S σ H o _ B _ E hw (fun d c S1 v H1 h1 E1 x1 V1 => ?_) kx
  obtain ⟨b, rfl, h'⟩ := bl_rp V1.1 h1
  exact ⟨b, rfl, k b S1 H1 h' E1 x1⟩
end
end Pu

namespace Pu
open PySem L2
theorem bt_int : bootBuiltins "int" = some (.type "int") := by decide +kernel
theorem bt_bool : bootBuiltins "bool" = some (.type "bool") := by decide +kernel
theorem bt_list : bootBuiltins "list" = some (.type "list") := by decide +kernel
theorem bt_tuple : bootBuiltins "tuple" = some (.type "tuple") := by decide +kernel
theorem bt_str : bootBuiltins "str" = some (.type "str") := by decide +kernel
theorem bt_dict : bootBuiltins "dict" = some (.type "dict") := by decide +kernel
theorem bb_len : bootBuiltins "len" = some (.builtin "len") := by decide +kernel
theorem bb_max : bootBuiltins "max" = some (.builtin "max") := by decide +kernel
theorem bb_min : bootBuiltins "min" = some (.builtin "min") := by decide +kernel
theorem bb_sum : bootBuiltins "sum" = some (.builtin "sum") := by decide +kernel
theorem bb_sorted : bootBuiltins "sorted" = some (.builtin "sorted") := by decide +kernel
section
variable {X : Cx} {W : WM} {k : Nat} {pos : Pos}
/-- h = _law_mix(_law_script, seed) -/
theorem ps_mix {j : Nat} {seed : Int} (i : Nat) {h : Str} {p q r u cp : Pos} {z} (a : At X W k) (F : Def X.prog X.w X.K X.mg X.base j "_law_mix" 2 (spMix X.K)) (hj : j ≤ k) (hN : X.N[0]? = some ("_law_script" : Str) := by rfl) (hv : Vis X.env.scope "_law_script" := by first | exact Or.inl rfl | exact Or.inr (Or.inl rfl) | exact Or.inr (Or.inr rfl))
    (hi : X.N[i]? = some h := by rfl) (hx : Loc X.env.scope h := by first | exact Or.inl rfl | exact Or.inr rfl) (hf : X.fn h = true ∨ X.env.scope.names.lookup h = some .local := by first | exact .inl rfl | exact .inr rfl) (hg : Gl X "_law_mix" := by rfl)
    (hst : starEach [.Name "_law_script" r, .Constant (.int seed) z u] X.env = (false, eval (.Name "_law_script" r) X.env) :: starEach [.Constant (.int seed) z u] X.env := by rfl) (hst2 : starEach [.Constant (.int seed) z u] X.env = (false, eval (.Constant (.int seed) z u) X.env) :: starEach [] X.env := by rfl)
    (hpl : (backTo cp (starEach [.Constant (.int seed) z u] X.env)).any (·.1) = false := by rfl) (hs : swapsWith (.Call (.Name "_law_mix" q) [.Name "_law_script" r, .Constant (.int seed) z u] [] cp) (some (.Name h p)) pos.line X.env = pure false := by rfl) :
    PS X (.Assign [.Name h p] (.Call (.Name "_law_mix" q) [.Name "_law_script" r, .Constant (.int seed) z u] [] cp) pos) (tAsg (tCallS (spMix X.K) (WE W.w) (tCons (tVar 0) (tCons (tC (.int seed)) tNil))) (gName i)) := by
  obtain ⟨f, fd, ps, G, hm, hk, hb, hps⟩ := F.ex
  exact ps_set a.nd hi hx (pe_callS G (a.room.mono hj) hg hm hk hb a.tk (pa_cons (pe_var hN hv) (pa_cons pe_int pa_nil hst2) hst) (by decide) hst hpl) hs hf

/-! ### a, b, .. = x, y, .. by a tuple -/
def gNs : List Nat → TGs
  | [] => gNil
  | i :: is => gCons (gName i) (gNs is)
theorem gNs_ok {D0 : Addr → Bool} {o : Ow} {H : Hp} {K : Slots → Prop} {Q : St → Hp → Prop} : ∀ {js : List Nat} {vs : List V} {ms : List Mi} {S : Slots} {σ : St}, MisOk D0 o H js vs ms → Env D0 S σ H o → K (puts js ms S) → (∀ S' σ', K S' → Env D0 S' σ' H o → Q σ' H) → gNs js vs σ H Q
  | _, _, _, S, σ, .nil, E, hK, k => ⟨rfl, k S σ hK E⟩
  | _, _, _, S, σ, .cons (j := j) (x := x) a b, E, hK, k => ⟨_, _, rfl, gNs_ok b (E.putM j a) hK k⟩
theorem ss_mixT {n kt : Nat} {is : List Nat} {tgs es : List Expr} {pt pt2 : Pos} {k2} {wm : WMi} (a : At X W k) (hm : SM X W es is wm) (hp : PGs X tgs (gNs is)) (hlen : is.length = n := by rfl) (hle : n ≤ 20 := by decide) (hn : (assignEach tgs X.env).length = n := by rfl) (hst : (assignEach tgs X.env).findIdx? (·.1) = none := by rfl)
    (hs : swapsWithSole [.Tuple tgs kt pt] (.Tuple es k2 pt2) pos.line X.env = pure false := by rfl) (hw : swappedStores [.Tuple tgs kt pt] (.Tuple es k2 pt2) X.env = pure none := by rfl)
    (h1 : (assignEach [.Tuple tgs kt pt] X.env).map (·.2) = [assign (.Tuple tgs kt pt) X.env] := by rfl) : SS X W (.Assign [.Tuple tgs kt pt] (.Tuple es k2 pt2) pos) (wMix is wm) := by
  obtain ⟨ta, pa, sa⟩ := hm.ex
  refine ⟨_, ps_asg (pe_tup pa) (pg_tup a.calm hp hn hst) hs hw h1, ?_⟩
  intro D0 S σ H o P D E hw g
  refine sa D0 S σ H o _ P.ex _ E hw (fun ms S1 vs H1 o1 h1 E1 f1 M => ?_) g.xwF
  have hl : ∀ {js : List Nat} {vs : List V} {ms : List Mi}, MisOk D0 o1 H1 js vs ms → vs.length = js.length := fun {js vs ms} m => by
    induction m with
    | nil => rfl
    | cons _ _ ih => rw [List.length_cons, List.length_cons, ih]
  have hv : vs.length = n := (hl M).trans hlen
  refine ⟨by rw [hv, sizeLine_eq]; omega, fun p hp => ?_⟩
  have x2 := XE.of (o := o1) (Le.new (u := .tup vs) hp)
  have E2 := E1.xe (Le.new (u := .tup vs) hp)
  have on : ∀ {js : List Nat} {vs' : List V} {ms : List Mi}, MisOk D0 o1 H1 js vs' ms → MisOk D0 o1 (upd H1 p (.tup vs)) js vs' ms := fun {js vs' ms} m => by
    induction m with
    | nil => exact .nil
    | cons a _ ih => exact .cons (a.on x2.frM) ih
  refine ⟨p, vs, rfl, SqT.at upd_same, hv, gNs_ok (on M) E2 h1 fun S' σ' hk E' => ?_⟩
  exact g.nx _ _ _ o1 hk E' (f1.fr.trans x2.fr)
end
theorem loose_int {lv : List (Str × PySem.W.WData)} {mg : Str → Option Value} {g : Heap} {x : Str} {i : Int} (L : PySem.W.LooseAre lv mg g) (h : (x, PySem.W.WData.int i) ∈ lv) : ∃ t, mg x = some (.int i t) := by
  obtain ⟨v, hv, r⟩ := L.val _ h
  cases r
  exact ⟨_, hv⟩
/-- law's walk: what the row asks, from the def's own promise -/
theorem law_walk {l : PySem.W.OpenLaw} {q qv : Program} {loose : List Str} {lv : List (Str × PySem.W.WData)} {YP : World → Heap → Prop} {d : DefRec} {FK : PySem.Params → PySem.W.Frag} {k : Nat} (m : l.most = some 63) (df : d.params.defaults = []) (rm : Room k callerA)
    (ki : ∀ w g, YP w g → (FK w.params).In g)
    (F : ∀ (w : World) (mg : Str → Option Value) (fa : Addr) (g : Heap), (FK w.params).In g → g.Ns mainGlobals mg → PySem.W.LooseAre lv mg g → mg d.name = some (.ref fa) →
      ∃ fd : FuncData, (∀ (s : Shared) (v : Value), BindsTo s fd ⟨[v], []⟩ [("_law_script", v)]) ∧ ∀ base : Heap, (FK w.params).In base → base.Ns mainGlobals mg → FnOk l.prog w (FK w.params) mg base (L2.CX l.prog w) k fa fd ["_law_script"] (spLaw (FK w.params))) :
    PySem.W.WalkO q loose (PySem.W.XL qv lv) YP l.row.toRowW d [] (fun f vs => PySem.call f vs) := by
  refine Att.attach_call m df fun w s0 s1 mg mb fa ob pm cd doc a vs ns G Y ho hd hcd hmg hobj hints hlen hg => ?_
  obtain ⟨fd, hb, hF⟩ := F w mg fa _ (ki w _ Y) G.T.g G.X.2 hmg
  exact law_call (ki w _ Y) G.T.g G.T.b G.T.builtins G.T.nolimit hg hobj hints (by rw [sizeLine_eq]; omega) rm hF hb (fun H _ hS => ⟨a, ns, rfl, hS, hlen, fun _ => rfl⟩) fun H e s' z => by
    obtain ⟨_, _, _, _, _, _, _, _, _, _, _, _, z⟩ := z
    exact z
end Pu

namespace Pu
open PySem L2
section
variable {X : Cx} {W : WM} {k : Nat} {pos : Pos}
/-! ### xs.index(y): the first place of an equal one -/
def wIdx (wl we : WEx) : WEx := fun S A B => wl S (fun d _ S1 => match d with
  | .list xs => we S1 (fun y _ S2 => SeqAt.shaped (.list xs) = true ∧ SeqAt.shaped y = true ∧ ∃ (j : Nat) (z : PyData), xs[j]? = some z ∧ PyData.eqv z y = true ∧ (∀ (m : Nat) (z' : PyData), m < j → xs[m]? = some z' → PyData.eqv z' y = false) ∧ A (.int (j : Nat)) True S2) B
  | _ => False) B
theorem se_idx {o e : Expr} {ap cp : Pos} {wl we : WEx} (a : At X W k) (ho : SE X W o wl) (he : SE X W e we)
    (hb : attributeBase o "index" X.env (eval o X.env) = eval o X.env := by rfl)
    (hfew : ((backTo cp (starEach [e] X.env)).all (fun x => !x.1) && (backToKw cp (keywordEach [] X.env)).all (fun x => x.1.isSome) && decide ([e].length + ([] : List Keyword).length + (if ([] : List Keyword).isEmpty then 0 else 1) < 30)) = true := by rfl)
    (hl : (ap.endLine == cp.line) = true := by rfl) (hst : starEach [e] X.env = (false, eval e X.env) :: starEach [] X.env := by rfl) (hpl : (backTo cp (starEach [] X.env)).any (·.1) = false := by rfl) :
    SE X W (.Call (.Attribute o "index" ap) [e] [] cp) (wIdx wl we) := by
  obtain ⟨to, po, so⟩ := ho.ex
  obtain ⟨te, pe, se⟩ := he.ex
  refine ⟨_, pe_bm PySem.F.plainAttrs_list PySem.F.slot_list_index PySem.F.type_list_index (mt_indexD a.u65) po (pa_cons pe pa_nil hst) hb hfew hl hst hpl, ?_⟩
  intro D0 S σ H o A B Q E hw kk kx
  refine so D0 S σ H o _ B _ E hw (fun d c S1 v H1 h1 E1 x1 V1 => ?_) kx
  split at h1
  · rename_i xs
    obtain ⟨p, vs, rfl, ep, rp, cp⟩ := V1.items E1
    refine ⟨.inl ⟨rfl, vs, SqL.at ep⟩, se D0 S1 σ H1 o _ B _ E1 h1 (fun y cy S2 u H2 h2 E2 x2 V2 => ?_) (kx.on x1)⟩
    obtain ⟨s1, s2, j, z, hz, hj, hno, h2⟩ := h2
    have V1' := V1.mono x2
    exact ⟨p, u, y, xs, j, z, rfl, rfl, V1'.dp s1, V2.dp s2, s1, s2, hz, hj, hno, kk _ _ S2 _ H2 h2 E2 (x1.trans x2) (Val.of (.int _))⟩
  · exact h1.elim
end
end Pu

namespace Pu
open PySem L2
section
variable {X : Cx} {W : WM} {k : Nat} {pos : Pos}

/-! ### parts of slices -/
abbrev WP := Slots → (Option Int → Slots → Prop) → EK → Prop
def SndP (W : WM) (t : TO) (w : WP) : Prop := ∀ (D0 : Addr → Bool) (S : Slots) (σ : St) (H : Hp) (o : Ow) (A : Option Int → Slots → Prop) (B : EK) (Q : Option Int → Hp → Prop), Env D0 S σ H o → w S A B →
  (∀ u S' H', A u S' → Env D0 S' σ H' o → XE o H H' → Q u H') → Xw W D0 σ o H B → t σ H Q
structure SP (X : Cx) (W : WM) (e : Option Expr) (w : WP) : Prop where
  ex : ∃ t, PO X e t ∧ SndP W t w
def wPn : WP := fun S A _ => A none S
def wPs (we : WEx) : WP := fun S A B => we S (fun d _ S1 => match d with
  | .int i => A (some i) S1
  | _ => False) B
theorem sp_none : SP X W none wPn := ⟨_, po_none, fun D0 S σ H o A B Q E hw k kx => k _ _ H hw E (XE.refl o H)⟩
theorem sp_some {e : Expr} {we : WEx} (he : SE X W e we) : SP X W (some e) (wPs we) := by
  obtain ⟨te, pe, se⟩ := he.ex
  refine ⟨_, po_some pe, ?_⟩
  intro D0 S σ H o A B Q E hw k kx
  refine se D0 S σ H o _ B _ E hw (fun d c S1 v H1 h1 E1 x1 V1 => ?_) kx
  split at h1
  · cases V1.1
    exact ⟨_, rfl, k _ S1 H1 h1 E1 x1⟩
  · exact h1.elim
/-- the items of xs[lo:hi] -/
def cutL {α : Type} (xs : List α) (lo hi : Option Int) : List α := (xs.drop (HT.sIx xs.length 0 lo)).take (HT.sIx xs.length xs.length hi - HT.sIx xs.length 0 lo)
theorem rp_cut {G : Hp} {vs : List V} {ds : List PyData} (r : RpAll G vs ds) (lo hi : Option Int) : RpAll G (cutV vs lo hi) (cutL ds lo hi) := by
  unfold cutV cutL
  rw [r.length]
  exact (r.drop _).take _
theorem cut_all {α : Type} {xs : List α} {lo hi : Option Int} (h : HT.sIx xs.length 0 lo = 0 ∧ HT.sIx xs.length xs.length hi = xs.length) : cutL xs lo hi = xs := by
  unfold cutL
  rw [h.1, h.2]
  simp
theorem flats_cut {ds : List PyData} (h : flats ds = true) (lo hi : Option Int) : flats (cutL ds lo hi) = true := flats_iff.mpr fun x hx => flats_iff.mp h x (List.mem_of_mem_drop (List.mem_of_mem_take hx))
def wSl (we : WEx) (wl wh : WP) : WLs := fun S A B => we S (fun d c S1 => match d with
  | .list xs => wl S1 (fun lo S2 => wh S2 (fun hi S3 => A (cutL xs lo hi) (c ∨ flats xs = true) S3) B) B
  | _ => False) B
theorem so_sl {e : Expr} {lo hi : Option Expr} {p2 : Pos} {we : WEx} {wl wh : WP} (he : SE X W e we) (hl : SP X W lo wl) (hh : SP X W hi wh) : SO X W (.Subscript e (.Slice lo hi none p2) pos) (wSl we wl wh) := by
  obtain ⟨te, pe, se⟩ := he.ex
  obtain ⟨tl, pl, sl⟩ := hl.ex
  obtain ⟨th, ph, sh⟩ := hh.ex
  refine ⟨_, pe_slice sl_list pe pl ph, ?_⟩
  intro D0 S σ H o A B Q E hw kk kx
  refine se D0 S σ H o _ B _ E hw (fun d c S1 v H1 h1 E1 x1 V1 => ?_) kx
  split at h1
  · rename_i xs
    refine sl D0 S1 σ H1 o _ B _ E1 h1 (fun l S2 H2 h2 E2 x2 => sh D0 S2 σ H2 o _ B _ E2 h2 (fun u S3 H3 h3 E3 x3 => ?_) (kx.on (x1.trans x2))) (kx.on x1)
    have V3 := (V1.mono x2).mono x3
    obtain ⟨a, vs, rfl, ea, ra, ca⟩ := V3.items E3
    exact ⟨a, vs, rfl, SqL.at ea, fun p hp => kk _ _ S3 _ p H3 h3 E3 ((x1.trans x2).trans x3) hp ⟨rp_cut ra l u, fun z => rp_cut (ca z) l u⟩⟩
  · exact h1.elim
def wSlt (we : WEx) (wl wh : WP) : WEx := fun S A B => we S (fun d c S1 => match d with
  | .tuple xs => wl S1 (fun lo S2 => wh S2 (fun hi S3 => A (.tuple (cutL xs lo hi)) (c ∨ flats xs = true) S3) B) B
  | _ => False) B
theorem se_slt {e : Expr} {lo hi : Option Expr} {p2 : Pos} {we : WEx} {wl wh : WP} (he : SE X W e we) (hl : SP X W lo wl) (hh : SP X W hi wh) : SE X W (.Subscript e (.Slice lo hi none p2) pos) (wSlt we wl wh) := by
  obtain ⟨te, pe, se⟩ := he.ex
  obtain ⟨tl, pl, sl⟩ := hl.ex
  obtain ⟨th, ph, sh⟩ := hh.ex
  refine ⟨_, pe_slice sl_tupA pe pl ph, ?_⟩
  intro D0 S σ H o A B Q E hw kk kx
  refine se D0 S σ H o _ B _ E hw (fun d c S1 v H1 h1 E1 x1 V1 => ?_) kx
  split at h1
  · rename_i xs
    refine sl D0 S1 σ H1 o _ B _ E1 h1 (fun l S2 H2 h2 E2 x2 => sh D0 S2 σ H2 o _ B _ E2 h2 (fun u S3 H3 h3 E3 x3 => ?_) (kx.on (x1.trans x2))) (kx.on x1)
    have V3 := (V1.mono x2).mono x3
    have V4 := V3.flat E3
    obtain ⟨a, vs, rfl, ea, ra, ca⟩ := V3.titems E3
    refine ⟨a, vs, rfl, SqT.at ea, fun hw => ?_, fun hw p hp => ?_⟩
    · rw [ra.length] at hw
      rw [cut_all hw] at h3
      exact kk _ _ S3 _ H3 h3 E3 ((x1.trans x2).trans x3) ⟨V4.1, fun z => V4.2 (by rw [flat]; exact z)⟩
    · exact kk _ _ S3 _ _ h3 (E3.xe (Le.new hp)) (((x1.trans x2).trans x3).trans (XE.of (Le.new hp))) (Val.newT E3 hp ⟨rp_cut ra l u, fun z => rp_cut (ca z) l u⟩)
  · exact h1.elim

/-! ### texts -/
def strs? : List PyData → Option (List Str)
  | [] => some []
  | .str s :: r => (strs? r).map (s :: ·)
  | _ :: _ => none
theorem strs?_map : ∀ ns : List Str, strs? (ns.map PyData.str) = some ns
  | [] => rfl
  | n :: r => by
    show (strs? (r.map PyData.str)).map (n :: ·) = _
    rw [strs?_map r]
    rfl
theorem strs?_of : ∀ {ds : List PyData} {ns : List Str}, strs? ds = some ns → ds = ns.map PyData.str
  | [], _, h => by cases h; rfl
  | .str i :: r, ns, h => by
    unfold strs? at h
    cases e : strs? r with
    | none => rw [e] at h; cases h
    | some l =>
      rw [e] at h
      cases h
      rw [strs?_of e]
      rfl
  | .none :: _, _, h => by cases h
  | .bool _ :: _, _, h => by cases h
  | .int _ :: _, _, h => by cases h
  | .list _ :: _, _, h => by cases h
  | .tuple _ :: _, _, h => by cases h
  | .dict _ :: _, _, h => by cases h
theorem RpAll.strs {G : Hp} : ∀ {vs : List V} {ns : List Str}, RpAll G vs (ns.map PyData.str) → vs = ns.map V.str
  | _, [], h => by cases h; rfl
  | _, n :: r, h => by
    cases h with
    | cons a b => cases a; rw [b.strs]; rfl
theorem RpAll.of_strs {G : Hp} : ∀ (ns : List Str), RpAll G (ns.map V.str) (ns.map PyData.str)
  | [] => .nil
  | n :: r => .cons (.str n) (RpAll.of_strs r)
def wSplit (wo we : WEx) : WLs := fun S A B => wo S (fun d _ S1 => match d with
  | .str a => we S1 (fun y _ S2 => match y with
    | .str b => (b.length == 0) = false ∧ a.length + 2 ≤ sizeLine ∧ A ((Txt.split a b).map .str) True S2
    | _ => False) B
  | _ => False) B
theorem so_split {o e : Expr} {ap : Pos} {wo we : WEx} (ho : SE X W o wo) (he : SE X W e we) (hs : starEach [e] X.env = [(false, eval e X.env)] := by rfl) (hbase : attributeBase o "split" X.env (eval o X.env) = eval o X.env := by rfl) (hline : (ap.endLine == pos.line) = true := by rfl) :
    SO X W (.Call (.Attribute o "split" ap) [e] [] pos) (wSplit wo we) := by
  obtain ⟨to, po, so⟩ := ho.ex
  obtain ⟨te, pe, se⟩ := he.ex
  refine ⟨_, pe_split po pe hs hbase hline, ?_⟩
  intro D0 S σ H o A B Q E hw kk kx
  refine so D0 S σ H o _ B _ E hw (fun d c S1 v H1 h1 E1 x1 V1 => ?_) kx
  split at h1
  · cases V1.1
    refine ⟨⟨_, rfl⟩, se D0 S1 σ H1 o _ B _ E1 h1 (fun y cy S2 u H2 h2 E2 x2 V2 => ?_) (kx.on x1)⟩
    split at h2
    · cases V2.1
      exact ⟨_, _, rfl, rfl, h2.1, h2.2.1, fun p hp => kk _ _ S2 _ p H2 h2.2.2 E2 (x1.trans x2) hp ⟨RpAll.of_strs _, fun _ => RpAll.of_strs _⟩⟩
    · exact h2.elim
  · exact h1.elim
def wJoin (wo we : WEx) : WEx := fun S A B => wo S (fun d _ S1 => match d with
  | .str a => we S1 (fun y _ S2 => match y with
    | .list ys => ∃ zs, strs? ys = some zs ∧ (zs.map (·.length)).sum + zs.length * a.length ≤ 16777216 ∧ A (.str (Txt.join a zs)) True S2
    | _ => False) B
  | _ => False) B
theorem se_join {o e : Expr} {ap : Pos} {wo we : WEx} (ho : SE X W o wo) (he : SE X W e we) (hs : starEach [e] X.env = [(false, eval e X.env)] := by rfl) (hbase : attributeBase o "join" X.env (eval o X.env) = eval o X.env := by rfl) (hline : (ap.endLine == pos.line) = true := by rfl) :
    SE X W (.Call (.Attribute o "join" ap) [e] [] pos) (wJoin wo we) := by
  obtain ⟨to, po, so⟩ := ho.ex
  obtain ⟨te, pe, se⟩ := he.ex
  refine ⟨_, pe_join po pe hs hbase hline, ?_⟩
  intro D0 S σ H o A B Q E hw kk kx
  refine so D0 S σ H o _ B _ E hw (fun d c S1 v H1 h1 E1 x1 V1 => ?_) kx
  split at h1
  · cases V1.1
    refine ⟨⟨_, rfl⟩, se D0 S1 σ H1 o _ B _ E1 h1 (fun y cy S2 u H2 h2 E2 x2 V2 => ?_) (kx.on x1)⟩
    split at h2
    · obtain ⟨zs, hz, hb, h2⟩ := h2
      obtain ⟨p, vs, rfl, ep, rp, cp⟩ := V2.items E2
      rw [strs?_of hz] at rp
      rw [rp.strs] at ep
      exact ⟨_, p, zs, rfl, rfl, .inl (SqL.at ep), hb, kk _ _ S2 _ H2 h2 E2 (x1.trans x2) (Val.of (.str _))⟩
    · exact h2.elim
  · exact h1.elim
def wRstrip (wo : WEx) : WEx := fun S A B => wo S (fun d _ S1 => match d with
  | .str a => a.length ≤ sizeLine ∧ A (.str (Txt.rstrip a)) True S1
  | _ => False) B
theorem se_rstrip {o : Expr} {ap : Pos} {wo : WEx} (ho : SE X W o wo) (hbase : attributeBase o "rstrip" X.env (eval o X.env) = eval o X.env := by rfl) (hline : (ap.endLine == pos.line) = true := by rfl) :
    SE X W (.Call (.Attribute o "rstrip" ap) [] [] pos) (wRstrip wo) := by
  obtain ⟨to, po, so⟩ := ho.ex
  refine ⟨_, pe_m0 F.slot_str_rstrip F.type_str_rstrip mt_rstrip po hbase hline, ?_⟩
  intro D0 S σ H o A B Q E hw kk kx
  refine so D0 S σ H o _ B _ E hw (fun d c S1 v H1 h1 E1 x1 V1 => ?_) kx
  split at h1
  · cases V1.1
    exact ⟨⟨_, rfl⟩, _, rfl, rfl, h1.1, kk _ _ S1 _ H1 h1.2 E1 x1 (Val.of (.str _))⟩
  · exact h1.elim
/-! f-strings -/
def wFmt (we : WEx) : WEx := fun S A B => we S (fun d _ S1 => match d with
  | .str y => y.length ≤ sizeLine ∧ A (.str y) True S1
  | .int i => i.natAbs.log2 < 1920 ∧ A (.str (toString i)) True S1
  | _ => False) B
theorem se_fmt {e : Expr} {we : WEx} (he : SE X W e we) : SE X W (.FormattedValue e (-1) none pos) (wFmt we) := by
  obtain ⟨te, pe, se⟩ := he.ex
  refine ⟨_, pe_fmt pe, ?_⟩
  intro D0 S σ H o A B Q E hw kk kx
  refine se D0 S σ H o _ B _ E hw (fun d c S1 v H1 h1 E1 x1 V1 => ?_) kx
  split at h1
  · cases V1.1
    exact .inl ⟨_, rfl, h1.1, kk _ _ S1 _ H1 h1.2 E1 x1 (Val.of (.str _))⟩
  · cases V1.1
    exact .inr ⟨_, rfl, h1.1, kk _ _ S1 _ H1 h1.2 E1 x1 (Val.of (.str _))⟩
  · exact h1.elim
abbrev WJ := Str → Slots → (Str → Slots → Prop) → EK → Prop
structure SJ (X : Cx) (W : WM) (es : List Expr) (w : WJ) : Prop where
  ex : ∃ ts, PJ X es ts ∧ ∀ (acc : Str) (D0 : Addr → Bool) (S : Slots) (σ : St) (H : Hp) (o : Ow) (A : Str → Slots → Prop) (B : EK) (Q : Str → Hp → Prop), Env D0 S σ H o → w acc S A B →
    (∀ u S' H', A u S' → Env D0 S' σ H' o → XE o H H' → Q u H') → Xw W D0 σ o H B → tJs ts acc σ H Q
def wJNil : WJ := fun acc S A _ => A acc S
def wJCons (we : WEx) (wr : WJ) : WJ := fun acc S A B => we S (fun d _ S1 => match d with
  | .str y => (acc ++ y).length ≤ sizeLine ∧ wr (acc ++ y) S1 A B
  | _ => False) B
theorem sj_nil : SJ X W [] wJNil := ⟨_, .nil, fun acc D0 S σ H o A B Q E hw k kx => k _ _ H hw E (XE.refl o H)⟩
theorem sj_cons {e : Expr} {es : List Expr} {we : WEx} {wr : WJ} (he : SE X W e we) (hr : SJ X W es wr) : SJ X W (e :: es) (wJCons we wr) := by
  obtain ⟨te, pe, se⟩ := he.ex
  obtain ⟨ts, pr, sr⟩ := hr.ex
  refine ⟨_, .cons pe pr, ?_⟩
  intro acc D0 S σ H o A B Q E hw kk kx
  refine se D0 S σ H o _ B _ E hw (fun d c S1 v H1 h1 E1 x1 V1 => ?_) kx
  split at h1
  · cases V1.1
    exact ⟨_, rfl, h1.1, sr _ D0 S1 σ H1 o A B Q E1 h1.2 (fun u S2 H2 h2 E2 x2 => kk u S2 H2 h2 E2 (x1.trans x2)) (kx.on x1)⟩
  · exact h1.elim
def wJs (wj : WJ) : WEx := fun S A B => wj Str.empty S (fun u S1 => A (.str u) True S1) B
theorem se_js {v1 v2 : Expr} {rest : List Expr} {wj : WJ} (h : SJ X W (v1 :: v2 :: rest) wj) : SE X W (.JoinedStr (v1 :: v2 :: rest) pos) (wJs wj) := by
  obtain ⟨ts, pj, sj⟩ := h.ex
  refine ⟨_, pe_joined pj, ?_⟩
  intro D0 S σ H o A B Q E hw kk kx
  exact sj _ D0 S σ H o _ B _ E hw (fun u S1 H1 h1 E1 x1 => kk _ _ S1 _ H1 h1 E1 x1 (Val.of (.str _))) kx
/-! str(n), int(text) -/
def gStr : RD := fun ds _ K => match ds with
  | [.int i] => i.natAbs.log2 < 1920 ∧ K (.str (toString i)) True
  | _ => False
theorem f_str : Fn X (.type "str") gStr := by
  refine ⟨_, call_str_int, ?_⟩
  intro D0 S σ o H vs ds c K Q E V hg k
  unfold gStr at hg
  split at hg
  · obtain ⟨v, rfl, U⟩ := vals1 V
    cases U.1
    exact ⟨_, rfl, hg.1, k _ _ _ H hg.2 (Le.refl H) (Val.of (.str _))⟩
  · exact hg.elim
def gIntS : RD := fun ds _ K => match ds with
  | [.str a] => ∃ n, PySem.intText? a = some n ∧ a.length ≤ 640 ∧ K (.int n) True
  | _ => False
theorem f_intS : Fn X (.type "int") gIntS := by
  refine ⟨_, call_int_str, ?_⟩
  intro D0 S σ o H vs ds c K Q E V hg k
  unfold gIntS at hg
  split at hg
  · obtain ⟨v, rfl, U⟩ := vals1 V
    cases U.1
    obtain ⟨n, h1, h2, h3⟩ := hg
    exact ⟨_, n, rfl, h1, h2, k _ _ _ H h3 (Le.refl H) (Val.of (.int _))⟩
  · exact hg.elim
/-! a text walked sign by sign -/
def signsD (x : Str) : List PyData := x.cps.toList.map fun c => PyData.str ⟨#[c]⟩
theorem wk_str {x : Str} : Wk (Its x) (signsD x) True (fun _ _ _ => True) where
  go := fun D0 o H i _ hi => by
    have : (signsD x).length = x.cps.size := by unfold signsD; rw [List.length_map, Array.length_toList]
    show i < x.cps.size
    omega
  stop := fun D0 o H _ => by
    have : (signsD x).length = x.cps.size := by unfold signsD; rw [List.length_map, Array.length_toList]
    show x.cps.size ≤ (signsD x).length
    omega
  yld := fun D0 S σ o H i y H' d _ E hd hy => by
    obtain ⟨rfl, c, hc, rfl⟩ := hy
    unfold signsD at hd
    rw [List.getElem?_map, Array.getElem?_toList, hc] at hd
    cases hd
    exact ⟨Le.refl _, Val.of (.str _)⟩
  xe := fun _ _ _ _ _ _ _ _ _ => trivial
  fr := fun _ _ _ _ _ _ _ _ _ => trivial
def wIS (wl : WEx) : WLs := fun S A B => wl S (fun d _ S1 => match d with
  | .str x => A (signsD x) True S1
  | _ => False) B
theorem si_s {tg e : Expr} {we : WEx} (he : SE X W e we) : SI X W tg e (wIS we) := by
  obtain ⟨te, pe, se⟩ := he.ex
  refine ⟨_, pi_str pe, ?_⟩
  intro D0 S σ H o A B R E hw k kx
  refine se D0 S σ H o _ B _ E hw (fun d c S1 v H1 h1 E1 x1 V1 => ?_) kx
  split at h1
  · cases V1.1
    exact ⟨_, rfl, k _ _ S1 _ H1 _ h1 E1 x1 wk_str trivial⟩
  · exact h1.elim
def gSignNotIn : R2D := fun x _ y _ K => match x, y with
  | .str ⟨⟨[c]⟩⟩, .str z => K (.bool (!decide (c ∈ z.cps.toList))) True
  | _, _ => False
theorem o_signNotIn : Op2 X (compareOp .NotIn) gSignNotIn :=
  ⟨_, op_notIn_sign, fun D0 S σ o H x y dx dy cx cy K Q E Vx Vy hg k => by
    unfold gSignNotIn at hg
    split at hg
    · cases Vx.1
      cases Vy.1
      exact ⟨_, _, rfl, rfl, k _ _ _ H hg (Le.refl H) (Val.of (.bl _))⟩
    · exact hg.elim⟩
end
end Pu

namespace Pu
open PySem L2
section
variable {X : Cx} {W : WM} {k : Nat} {pos : Pos}

/-! ### a text so many times -/
def gMulT : R2D := fun x _ y _ K => match x, y with
  | .str z, .int n => 2 ≤ n ∧ n ≤ 1000 ∧ 1 ≤ z.length ∧ z.length ≤ 1000 ∧ K (.str (Txt.mul z n)) True
  | _, _ => False
theorem op_mul_str : OpR X (binaryOp .Mult) (fun x y H Q => ∃ (z : Str) (n : Int), x = .str z ∧ y = .int n ∧ 2 ≤ n ∧ n ≤ 1000 ∧ 1 ≤ z.length ∧ z.length ≤ 1000 ∧ Q (.str (Txt.mul z n)) H) := by
  intro pins s σ H x y v u Q I rx ry h
  obtain ⟨z, n, rfl, rfl, h2, h1000, hz1, hz, q⟩ := h
  obtain ⟨t, rfl⟩ := rx
  obtain ⟨t', rfl⟩ := ry
  have e63 : (2 : Int) ^ 63 = 9223372036854775808 := by decide
  refine SB.mul ⟨?_, fun _ _ => ?_, fun _ _ => ?_⟩ fun t' k => ⟨.str (Txt.mul z n), H, I.tok k, ⟨_, rfl⟩, q⟩
  · rw [decide_eq_false (by rw [e63]; omega), decide_eq_false (by rw [e63]; omega)]; rfl
  · rw [e63]
    have : (9223372036854775808 - 1) / 1000 ≤ (9223372036854775808 - 1 : Int) / n := by
      refine Int.le_ediv_of_mul_le (by omega) ?_
      have : ((9223372036854775808 - 1 : Int) / 1000) * n ≤ ((9223372036854775808 - 1 : Int) / 1000) * 1000 := Int.mul_le_mul_of_nonneg_left h1000 (by decide)
      exact Int.le_trans this (by decide)
    have e : ((9223372036854775808 - 1 : Int) / 1000) = 9223372036854775 := by decide
    rw [e] at this
    omega
  · have hb : z.length * n.toNat ≤ 1000 * 1000 := Nat.mul_le_mul hz (by omega)
    have : ¬ (z.length * n.toNat > sizeLine) := by rw [sizeLine_eq]; omega
    exact decide_eq_false this
theorem o_mulT : Op2 X (binaryOp .Mult) gMulT :=
  ⟨_, op_mul_str, fun D0 S σ o H x y dx dy cx cy K Q E Vx Vy hg k => by
    unfold gMulT at hg
    split at hg
    · cases Vx.1
      cases Vy.1
      exact ⟨_, _, rfl, rfl, hg.1, hg.2.1, hg.2.2.1, hg.2.2.2.1, k _ _ _ H hg.2.2.2.2 (Le.refl H) (Val.of (.str _))⟩
    · exact hg.elim⟩

/-! ### a, b, .. = a list -/
def wGL (n : Nat) (ws : WTgs) : WTg := fun d c S K => match d with
  | .list ds => ds.length = n ∧ ws ds (c ∨ flats ds = true) S K
  | _ => False
theorem sg_l {es : List Expr} {n kk : Nat} {L : List Nat} {ws : WTgs} (hc : X.calm = true) (h : SGs X es L ws)
    (hn : (assignEach es X.env).length = n := by rfl) (hst : (assignEach es X.env).findIdx? (·.1) = none := by rfl) : SG X (.Tuple es kk pos) L (wGL n ws) := by
  obtain ⟨g, pg, sg⟩ := h.ex
  refine ⟨_, pg_lst hc pg hn hst, ?_⟩
  intro D0 S σ H o v d c K Q E V hw k
  unfold wGL at hw
  split at hw
  · obtain ⟨a, vs, rfl, e, r, rc⟩ := V.items E
    exact ⟨a, vs, rfl, SqL.at e, by rw [r.length]; exact hw.1, sg D0 S σ H o vs _ _ K Q E ⟨r, rc⟩ hw.2 k⟩
  · exact hw.elim

/-! ### try: .. except x as n: suite -/
/-- an exception's fields are nobody's -/
theorem Env.xdv {D0 : Addr → Bool} {S : Slots} {σ : St} {H : Hp} {o : Ow} (E : Env D0 S σ H o) {q : Addr} {fs : List (Str × V)} (h : H q = some (.xd fs)) : vw D0 o (co H) q = some (.xd fs) := by
  have e2 : co H q = some (.xd fs) := co_of h
  refine vw_at ?_ ?_ e2
  · cases z : D0 q with
    | false => rfl
    | true =>
      obtain ⟨u, h1, h2⟩ := E.dead q z
      rw [e2] at h1
      cases h1
      cases h2
  · cases z : o q with
    | none => rfl
    | some p =>
      obtain ⟨_, u, h1, h2⟩ := E.live q p z
      rw [e2] at h1
      cases h1
      cases h2
/-- slot i holds an exception -/
theorem Env.putX {D0 : Addr → Bool} {S : Slots} {σ : St} {H : Hp} {o : Ow} (E : Env D0 S σ H o) (i : Nat) (e : Addr) (d : Option Addr) (fs : List (Str × V)) (h : ∀ q, d = some q → H q = some (.xd fs)) :
    Env D0 (S.set i (.ex e d fs)) (σ.set i (some (.ref e))) H o := by
  refine ⟨by rw [List.length_set, List.length_set]; exact E.len, E.live, E.dead, fun j s hs => ?_, E.nf⟩
  by_cases z : i = j
  · subst z
    have hi : i < S.length := by
      have q := (List.getElem?_eq_some_iff.mp hs).1
      rw [List.length_set] at q
      exact q
    rw [List.getElem?_set_self hi] at hs
    cases hs
    exact ⟨by rw [List.getElem?_set_self (by rw [E.len]; exact hi)], fun q hq => E.xdv (h q hq)⟩
  · rw [List.getElem?_set_ne z] at hs ⊢
    exact E.sl j s hs
def wTryAs (M : Str → Option Bool) (i : Nat) (wb : WS) (ws : Addr → Option Addr → XC → WS) : WS := fun S P => wb S { P with ex := fun y S1 => match M y.1 with
  | some true => ∀ (e : Addr) (d : Option Addr), d.isNone = y.2.isEmpty ∨ d.isSome = true → ws e d y (S1.set i (.ex e d y.2)) { nx := fun S2 => P.nx (S2.set i .un), bk := fun S2 => P.bk (S2.set i .un), ct := fun S2 => P.ct (S2.set i .un), rt := P.rt, ex := noX }
  | some false => P.ex y S1
  | none => False }
theorem ss_tryAs {x n : Str} {C : Addr} {M : Str → Option Bool} {body suite : List Stmt} {b₀ : Stmt} {np pos' : Pos} {wb : WS} {ws : Addr → Option Addr → XC → WS} (i : Nat) (a : At X W k) (hm : X.mg x = some (.ref C)) (hM : Catch X.K X.mg C M)
    (hb : ∀ (w' : WX) (pn : List (Addr × Obj)) (xe : Value → Shared → Prop), At (X.tr pn xe) ⟨X.mg, w'⟩ k → SSs (X.tr pn xe) ⟨X.mg, w'⟩ body wb)
    (hsu : ∀ (e : Addr) (oe : Obj) (d : Option Addr) (pn : List (Addr × Obj)) (y : XC) (A : Addr), Zc (.ref A) d oe → (∃ vs, oe.data = .fields vs) → X.mg y.1 = some (.ref A) → M y.1 = some true → SSs (X.suite e ((e, oe) :: pn)) (WN X.mg) (b₀ :: suite) (ws e d y))
    (hi : X.N[i]? = some n := by rfl) (hln : X.env.kindOf n = some .local := by rfl)
    (hs : X.stack = X.env :: X.outer := by rfl) (hf : X.env.frame = some X.env.locals := by rfl) (hg : Gl X x := by rfl) (hdb : (x == ("__debug__" : Str)) = false := by decide) :
    SS X W (.Try body [.ExceptHandler (some (.Name x np)) (some n) (b₀ :: suite) pos'] [] [] pos) (wTryAs M i wb ws) := by
  refine ⟨_, ps_try_as (i := i) (ts := fun e cls d D σ H => ∃ (y : XC) (A : Addr), cls = .ref A ∧ X.mg y.1 = some (.ref A) ∧ M y.1 = some true ∧ tSW (WN X.mg) (ws e d y) D σ H) hs hf a.nd hi hln ⟨hg, hdb, .inl hm⟩ a.tx
    (fun w' pn xe tk po => (hb w' pn xe ⟨a.room, a.calm, tk, rfl, a.nd, po⟩).pss) (fun e oe cls d pn hz hvs => ?_), ?_⟩
  · refine ⟨fun pins s σ H D I h => ?_⟩
    obtain ⟨y, A, rfl, hA, hy, h⟩ := h
    exact (hsu e oe d pn y A hz hvs hA hy).pss.run pins s σ H D I h
  intro D0 S σ H o P D E hw g
  refine tSW_snd D0 S σ H o _ D E hw ⟨g.nx, g.bk, g.ct, g.rt, ?_⟩
  intro y S' σ' cls dd H' o' h E' f ok
  obtain ⟨⟨A, hA, rfl⟩, hx⟩ := ok
  have h' : (match M y.1 with
    | some true => ∀ (e : Addr) (d : Option Addr), d.isNone = y.2.isEmpty ∨ d.isSome = true → ws e d y (S'.set i (.ex e d y.2)) { nx := fun S2 => P.nx (S2.set i .un), bk := fun S2 => P.bk (S2.set i .un), ct := fun S2 => P.ct (S2.set i .un), rt := P.rt, ex := noX }
    | some false => P.ex y S' | none => False) := h
  cases hM' : M y.1 with
  | none =>
    rw [hM'] at h'
    exact h'.elim
  | some b =>
    rw [hM'] at h'
    refine ⟨b, hM.ok _ _ hM' A hA, fun eb e he => ?_, fun eb => ?_⟩
    · subst eb
      have hd : dd.isNone = y.2.isEmpty ∨ dd.isSome = true := by
        rcases hx with ⟨h1, h2⟩ | ⟨q, h1, h2⟩
        · left; rw [h1, h2]; rfl
        · right; rw [h1]; rfl
      have hq : ∀ q, dd = some q → H' q = some (.xd y.2) := fun q e2 => by
        rcases hx with ⟨h1, h2⟩ | ⟨q', h1, h2⟩
        · rw [h2] at e2; cases e2
        · rw [h1] at e2; cases e2; exact h2
      have E2 := E'.putX i e dd y.2 hq
      have g' := g.on f
      refine ⟨y, A, rfl, hA, hM', tSW_snd D0 _ _ H' o' _ _ E2 (h' e dd hd) ⟨fun S2 σ2 H2 o2 h2 E3 f2 => ?_, fun S2 σ2 H2 o2 h2 E3 f2 => ?_, fun S2 σ2 H2 o2 h2 E3 f2 => ?_, g'.rt, fun _ _ _ _ _ _ _ z => z.elim⟩⟩
      · exact g'.nx _ _ H2 o2 h2 (E3.un i) f2
      · exact g'.bk _ _ H2 o2 h2 (E3.un i) f2
      · exact g'.ct _ _ H2 o2 h2 (E3.un i) f2
    · subst eb
      exact g.ex y S' σ' _ dd H' o' h' E' f ⟨⟨A, by rw [a.mq]; exact hA, rfl⟩, hx⟩
/-- n.f in the suite -/
def wXf (e : Addr) (d : Option Addr) (y : XC) (i : Nat) (x f : Str) : WEx := fun S A _ => y.1 = x ∧ d.isSome = true ∧ ∃ fs v dv, S[i]? = some (.ex e d fs) ∧ fs.lookup f = some v ∧ dV v = some dv ∧ A dv True S
theorem se_xf {e C A : Addr} {oe : Obj} {d : Option Addr} {pn : List (Addr × Obj)} {y : XC} {x n f : Str} {p1 : Pos} (i : Nat) (T : XfC X.K C) (hno : PySem.W.findIn X.K (.ref C) f = some none) (hz : Zc (.ref A) d oe) (hf : ∃ vs, oe.data = .fields vs) (hA : X.mg y.1 = some (.ref A)) (hC : X.mg x = some (.ref C))
    (hi : X.N[i]? = some n := by rfl) (hv : Vis X.env.scope n := by first | exact Or.inl rfl | exact Or.inr (Or.inl rfl) | exact Or.inr (Or.inr rfl)) (hd : (n == ("__debug__" : Str)) = false := by decide) (hcd : (n == ("__classdict__" : Str)) = false := by decide)
    (hab : attributeBase (.Name n p1) f X.env (eval (.Name n p1) X.env) = eval (.Name n p1) X.env := by rfl) :
    SE (X.suite e ((e, oe) :: pn)) (WN X.mg) (.Attribute (.Name n p1) f pos) (wXf e d y i x f) := by
  refine ⟨_, pe_xf T hno hz hf (pe_var (X := X.suite e ((e, oe) :: pn)) hi hv hd hcd) hab, ?_⟩
  intro D0 S σ H o A' B Q E hw k kx
  obtain ⟨ey, hds, fs, v, dv, hs, hl, hdv, hw⟩ := hw
  obtain ⟨h1, h2⟩ := E.sl i _ hs
  obtain ⟨q, rfl⟩ := Option.isSome_iff_exists.mp hds
  rw [ey, hC] at hA
  cases hA
  have hq := vw_le _ _ (h2 q rfl)
  have hq' : H q = some (.xd fs) := by
    unfold co at hq
    cases z : H q with
    | none => rw [z] at hq; cases hq
    | some u =>
      rw [z] at hq
      cases u <;> simp [core] at hq ⊢
      · exact hq
      · rename_i o' w'
        cases w' <;> simp [isDct] at hq
  exact ⟨.ref e, h1, rfl, rfl, q, fs, v, rfl, hq', hl, k _ _ _ _ H hw E (XE.refl o H) (Val.of (rp_dV hdv))⟩
/-- isinstance(n, T) in the suite -/
def rIsE2 (K : PySem.W.Frag) (D a : Addr) (d : Option Addr) : List V → Hp → VK → Prop := fun xs H Q => ∃ (c : V) (cv : Value) (b : Bool), xs = [.ref a, c] ∧ (∀ u, RelV c u → u = cv) ∧ (∀ q, d = some q → ∃ fs, H q = some (.xd fs)) ∧ PySem.W.kitOne K (.ref D) cv = some b ∧ Q (.bl b) H
theorem call_isE2 {a D : Addr} {oe : Obj} {d : Option Addr} {pn : List (Addr × Obj)} (C : ExcC X.K D) (hz : Zc (.ref D) d oe) (hf : ∃ vs, oe.data = .fields vs) : CallR (X.suite a ((a, oe) :: pn)) (.builtin "isinstance") (rIsE2 X.K D a d) := by
  intro pins s σ H xs us Q I r h
  obtain ⟨c, cv, b, rfl, hcv, hd, e, q⟩ := h
  cases r with
  | cons rx rr =>
    cases rr with
    | cons rt rr =>
      cases rr
      cases rx
      have ec := hcv _ rt
      subst ec
      obtain ⟨hget, _⟩ := I.pin (a, oe) (List.mem_append.mpr (.inl List.mem_cons_self))
      obtain ⟨vs, hv⟩ := hf
      obtain ⟨cd, hcd, _⟩ := PySem.W.any_some C.hd
      have hcl : (PySem.W.clsIn X.K D).isSome = true := by rw [hcd]; rfl
      cases d with
      | none =>
        have J : PySem.W.InstAt s.heap a oe D none := ⟨hget, hz.1, by unfold PySem.W.notCls; rw [hv], by rw [hz.2]; trivial⟩
        exact PySem.W.kia_one (PySem.W.kitx_exc hcl C.hg C.hk C.hs C.ha C.hn C.ht C.hm) I.kIn J e (fun z => nomatch z) fun tk => ⟨.bl b, H, I.kept (t' := tk) fun _ _ z => z, rfl, q⟩
      | some q' =>
        obtain ⟨fs, hq⟩ := hd q' rfl
        obtain ⟨mA, hns, hr⟩ : ObjOk X.prog X.w H s.heap q' (.xd fs) := I.hok q' _ hq
        obtain ⟨od, ho, hl⟩ := lookIn_ns hns
        have J : PySem.W.InstAt s.heap a oe D (some od) := ⟨hget, hz.1, by unfold PySem.W.notCls; rw [hv], by rw [hz.2]; exact ho⟩
        exact PySem.W.kia_one (PySem.W.kitx_exc hcl C.hg C.hk C.hs C.ha C.hn C.ht C.hm) I.kIn J e (fun z => nomatch z) fun tk => ⟨.bl b, H, I.kept (t' := tk) fun _ _ z => z, rfl, q⟩
/-! for suites: what wants no calm -/
theorem ss_setN (i : Nat) {x : Str} {e : Expr} {p : Pos} {we : WEx} (nd : X.N.Nodup) (he : SE X W e we) (hi : X.N[i]? = some x := by rfl) (hx : Loc X.env.scope x := by first | exact Or.inl rfl | exact Or.inr rfl) (hs : swapsWith e (some (.Name x p)) pos.line X.env = pure false := by rfl) (hf : X.fn x = true ∨ X.env.scope.names.lookup x = some .local := by first | exact .inl rfl | exact .inr rfl) :
    SS X W (.Assign [.Name x p] e pos) (wSet i we) := by
  obtain ⟨te, pe, se⟩ := he.ex
  refine ⟨_, ps_set nd hi hx pe hs hf, ?_⟩
  intro D0 S σ H o P D E hw g
  refine se D0 S σ H o _ P.ex _ E hw (fun d c S1 v H1 h1 E1 x1 V1 => ?_) g.xw
  exact g.nx _ _ _ _ h1.2 (E1.put i ((V1.flat E1).2 h1.1)) x1.fr
theorem o_eqU (hu : X.A.units + 64 < cLine) : Op2 X (compareOp .Eq) gEq :=
  ⟨_, op_eqD hu, fun D0 S σ o H x y dx dy cx cy K Q E Vx Vy hg k => ⟨dx, dy, Vx.dp hg.1, Vy.dp hg.2.1, hg.1, hg.2.1, k _ _ _ H hg.2.2 (Le.refl H) (Val.of (.bl _))⟩⟩
theorem o_neU (hu : X.A.units + 64 < cLine) : Op2 X (compareOp .NotEq) gNe :=
  ⟨_, op_neD hu, fun D0 S σ o H x y dx dy cx cy K Q E Vx Vy hg k => ⟨dx, dy, Vx.dp hg.1, Vy.dp hg.2.1, hg.1, hg.2.1, k _ _ _ H hg.2.2 (Le.refl H) (Val.of (.bl _))⟩⟩
/-- isinstance(n, T), T a class of the text -/
structure IsX (K : PySem.W.Frag) (mg : Str → Option Value) (T : Str) (M : Str → Option Bool) : Prop where
  ex : ∃ C, mg T = some (.ref C) ∧ ∀ x b D, M x = some b → mg x = some (.ref D) → PySem.W.kitOne K (.ref D) (.ref C) = some b ∧ ExcC K D
def wXis (e : Addr) (d : Option Addr) (y : XC) (i : Nat) (M : Str → Option Bool) : WEx := fun S A _ => ∃ fs b, S[i]? = some (.ex e d fs) ∧ M y.1 = some b ∧ A (.bool b) True S
theorem se_xis {e A : Addr} {oe : Obj} {d : Option Addr} {pn : List (Addr × Obj)} {y : XC} {T n : Str} {M : Str → Option Bool} {p p1 p2 : Pos} (i : Nat) (hT : IsX X.K X.mg T M) (hm : X.mg "isinstance" = none) (hz : Zc (.ref A) d oe) (hf : ∃ vs, oe.data = .fields vs) (hA : X.mg y.1 = some (.ref A))
    (hi : X.N[i]? = some n := by rfl) (hv : Vis X.env.scope n := by first | exact Or.inl rfl | exact Or.inr (Or.inl rfl) | exact Or.inr (Or.inr rfl)) (hd : (n == ("__debug__" : Str)) = false := by decide) (hcd : (n == ("__classdict__" : Str)) = false := by decide)
    (hg : Gl X "isinstance" := by rfl) (hgT : Gl X T := by rfl) (hdT : (T == ("__debug__" : Str)) = false := by decide)
    (hst : starEach [.Name n p1, .Name T p2] X.env = (false, eval (.Name n p1) X.env) :: starEach [.Name T p2] X.env := by rfl) (hst2 : starEach [.Name T p2] X.env = (false, eval (.Name T p2) X.env) :: starEach [] X.env := by rfl) (hpl : (backTo pos (starEach [.Name T p2] X.env)).any (·.1) = false := by rfl) :
    SE (X.suite e ((e, oe) :: pn)) (WN X.mg) (.Call (.Name "isinstance" p) [.Name n p1, .Name T p2] [] pos) (wXis e d y i M) := by
  obtain ⟨C, hC, hM⟩ := hT.ex
  by_cases hD : ∃ b, M y.1 = some b
  · obtain ⟨b, hb⟩ := hD
    obtain ⟨h1, h2⟩ := hM _ _ _ hb hA
    refine ⟨_, pe_callB (X := X.suite e ((e, oe) :: pn)) (call_isE2 h2 hz hf) hg hm (by decide +kernel) (pa_cons (X := X.suite e ((e, oe) :: pn)) (pe_var (X := X.suite e ((e, oe) :: pn)) hi hv hd hcd) (pa_cons (X := X.suite e ((e, oe) :: pn)) (pe_glob (X := X.suite e ((e, oe) :: pn)) (v := .ref C) hgT hC rfl hdT) pa_nil hst2) hst) (by decide) (by decide) hst hpl, ?_⟩
    intro D0 S σ H o A' B Q E hw k kx
    obtain ⟨fs, b', hs, hb', hw⟩ := hw
    rw [hb] at hb'
    cases hb'
    obtain ⟨g1, g2⟩ := E.sl i _ hs
    refine ⟨.ref e, g1, .ref C, .ref C, b, rfl, fun u hu => hu, fun q hq => ?_, h1, k _ _ _ _ H hw E (XE.refl o H) (Val.of (.bl _))⟩
    have hq' := vw_le _ _ (g2 q hq)
    unfold co at hq'
    cases z : H q with
    | none => rw [z] at hq'; cases hq'
    | some u =>
      rw [z] at hq'
      cases u <;> simp [core] at hq'
      · exact ⟨_, rfl⟩
      · rename_i o' w'
        cases w' <;> simp [isDct] at hq'
  · refine ⟨fun _ _ _ => False, ⟨fun pins s σ H Q I h => h.elim⟩, ?_⟩
    intro D0 S σ H o A' B Q E hw k kx
    obtain ⟨fs, b', hs, hb', hw⟩ := hw
    exact hD ⟨b', hb'⟩
/-! xs + ys, a new list -/
def wCat (wa wb : WEx) : WLs := fun S A B => wa S (fun x cx S1 => wb S1 (fun y cy S2 => match x, y with
  | .list xs, .list ys => xs.length + ys.length ≤ sizeLine ∧ A (xs ++ ys) ((cx ∨ flats xs = true) ∧ (cy ∨ flats ys = true)) S2
  | _, _ => False) B) B
theorem so_cat {a b : Expr} {wa wb : WEx} (ha : SE X W a wa) (hb : SE X W b wb) : SO X W (.BinOp a .Add b pos) (wCat wa wb) := by
  obtain ⟨ta, pa, sa⟩ := ha.ex
  obtain ⟨tb, pb, sb⟩ := hb.ex
  refine ⟨_, pe_op op_cat pa pb, ?_⟩
  intro D0 S σ H o A B Q E hw k kx
  refine sa D0 S σ H o _ B _ E hw (fun d c S1 v H1 h1 E1 x1 V1 => ?_) kx
  refine sb D0 S1 σ H1 o _ B _ E1 h1 (fun d2 c2 S2 v2 H2 h2 E2 x2 V2 => ?_) (kx.on x1)
  split at h2
  · have V1' := V1.mono x2
    obtain ⟨a, vs, rfl, ea, ra, ca⟩ := V1'.items E2
    obtain ⟨b, ws, rfl, eb, rb, cb⟩ := V2.items E2
    exact ⟨a, b, vs, ws, rfl, rfl, ea, eb, by rw [ra.length, rb.length]; exact h2.1, fun p hp => k _ _ S2 _ p H2 h2.2 E2 (x1.trans x2) hp ⟨ra.append rb, fun z => (ca z.1).append (cb z.2)⟩⟩
  · exact h2.elim
/-! the frame's own list: its items are nobody's to change -/
def wCatV (i : Nat) (wb : WEx) : WLs := fun S A B => (∃ xs, S[i]? = some (.ol xs)) ∧ wb S (fun y cy S2 => match y, S2[i]? with
  | .list ys, some (.ol xs) => xs.length + ys.length ≤ sizeLine ∧ A (xs ++ ys) (cy ∨ flats ys = true) S2
  | _, _ => False) B
theorem so_catV (i : Nat) {x : Str} {p : Pos} {b : Expr} {wb : WEx} (hb : SE X W b wb) (hN : X.N[i]? = some x := by rfl) (hv : Vis X.env.scope x := by first | exact Or.inl rfl | exact Or.inr (Or.inl rfl) | exact Or.inr (Or.inr rfl))
    (hd : (x == ("__debug__" : Str)) = false := by decide) (hcd : (x == ("__classdict__" : Str)) = false := by decide) : SO X W (.BinOp (.Name x p) .Add b pos) (wCatV i wb) := by
  obtain ⟨tb, pb, sb⟩ := hb.ex
  refine ⟨_, pe_op op_cat (pe_var hN hv hd hcd) pb, ?_⟩
  intro D0 S σ H o A B Q E hw k kx
  obtain ⟨⟨xs0, hs0⟩, hw⟩ := hw
  obtain ⟨a, vs0, k1, k2, k3, k4⟩ := E.sl i _ hs0
  refine ⟨.ref a, k1, sb D0 S σ H o _ B _ E hw (fun d2 c2 S2 v2 H2 h2 E2 x2 V2 => ?_) kx⟩
  split at h2
  · rename_i ys xs hs2
    obtain ⟨a', vs, m1, m2, m3, m4⟩ := E2.sl i _ hs2
    rw [k1] at m1
    cases m1
    obtain ⟨b, ws, rfl, eb, rb, cb⟩ := V2.items E2
    exact ⟨a, b, vs, ws, rfl, rfl, co_lst m3, eb, by rw [m4.length, rb.length]; exact h2.1, fun p hp => k _ _ S2 _ p H2 h2.2 E2 x2 hp ⟨(m4.mono vw_le_vt).append rb, fun z => m4.append (cb z)⟩⟩
  · exact h2.elim
def wIxV (i : Nat) (wb : WEx) : WEx := fun S A B => (∃ xs, S[i]? = some (.ol xs)) ∧ wb S (fun y _ S2 => match y, S2[i]? with
  | .int j, some (.ol xs) => ∃ d, atD xs j = some d ∧ A d True S2
  | _, _ => False) B
theorem se_ixV (i : Nat) {x : Str} {p : Pos} {b : Expr} {wb : WEx} (hb : SE X W b wb) (hs : PlainIx b := by exact fun _ _ => rfl) (hN : X.N[i]? = some x := by rfl) (hv : Vis X.env.scope x := by first | exact Or.inl rfl | exact Or.inr (Or.inl rfl) | exact Or.inr (Or.inr rfl))
    (hd : (x == ("__debug__" : Str)) = false := by decide) (hcd : (x == ("__classdict__" : Str)) = false := by decide) : SE X W (.Subscript (.Name x p) b pos) (wIxV i wb) := by
  obtain ⟨tb, pb, sb⟩ := hb.ex
  refine ⟨_, pe_ix ix_seq (pe_var hN hv hd hcd) pb hs, ?_⟩
  intro D0 S σ H o A B Q E hw k kx
  obtain ⟨⟨xs0, hs0⟩, hw⟩ := hw
  obtain ⟨a, vs0, k1, k2, k3, k4⟩ := E.sl i _ hs0
  refine ⟨.ref a, k1, sb D0 S σ H o _ B _ E hw (fun y cy S2 u H2 h2 E2 x2 V2 => ?_) kx⟩
  split at h2
  · rename_i j xs hs2
    obtain ⟨d, hd', h2⟩ := h2
    obtain ⟨a', vs, m1, m2, m3, m4⟩ := E2.sl i _ hs2
    rw [k1] at m1
    cases m1
    cases V2.1
    obtain ⟨w', e1, r1⟩ := rp_at m4 hd'
    exact .inl ⟨a, vs, _, w', rfl, rfl, SqL.at (co_lst m3), e1, k _ _ S2 _ H2 h2 E2 x2 (Val.of r1)⟩
  · exact h2.elim
end
end Pu

namespace Pu
open PySem L2

/-! ### keys and entries -/
def eqA : PyData → PyData → Bool
  | .int i, .int j => decide (i = j)
  | .str s, .str t => decide (s = t)
  | _, _ => false
def eqAs : List PyData → List PyData → Bool
  | [], [] => true
  | x :: xs, y :: ys => eqA x y && eqAs xs ys
  | _, _ => false
def eqK : PyData → PyData → Bool
  | .tuple xs, .tuple ys => eqAs xs ys
  | x, y => eqA x y
def isA : PyData → Bool
  | .int _ => true
  | .str _ => true
  | _ => false
def isKT : PyData → Bool
  | .tuple xs => xs.all isA
  | _ => false
abbrev Es := List (PyData × PyData)
def lookE (es : Es) (k : PyData) : Option PyData := (es.find? fun e => eqK e.1 k).map (·.2)
def putE (es : Es) (k v : PyData) : Es := if (es.any fun e => eqK e.1 k) = true then es.map (fun e => if eqK e.1 k = true then (e.1, v) else e) else es ++ [(k, v)]
/-- the entries less the mark -/
def dE : Es → Es
  | (.none, .none) :: r => r
  | es => es
def isMk : Es → Bool
  | (.none, .none) :: _ => true
  | _ => false
def okK (es : Es) (k : PyData) : Bool := if isMk es = true then isA k else isKT k
def putD (es : Es) (k v : PyData) : Es := if isMk es = true then (.none, .none) :: putE (dE es) k v else putE es k v
theorem eqA_key (a b : Key) : eqA (keyD a) (keyD b) = decide (a = b) := by
  cases a <;> cases b <;> simp [keyD, eqA]
theorem eqK_key (a b : Key) : eqK (keyD a) (keyD b) = decide (a = b) := by
  rw [← eqA_key]
  cases a <;> cases b <;> rfl
theorem eqAs_keys : ∀ a b : List Key, eqAs (a.map keyD) (b.map keyD) = decide (a = b)
  | [], [] => rfl
  | [], _ :: _ => by simp [eqAs]
  | _ :: _, [] => by simp [eqAs]
  | x :: xs, y :: ys => by
    rw [List.map_cons, List.map_cons]
    simp only [eqAs, eqA_key, eqAs_keys xs ys, List.cons.injEq, Bool.decide_and]
theorem eqK_keys (a b : List Key) : eqK (.tuple (a.map keyD)) (.tuple (b.map keyD)) = decide (a = b) := eqAs_keys a b
theorem isA_key {G : Hp} {y : V} {k : PyData} (h : isA k = true) (r : Rp G y k) : ∃ q : Key, k = keyD q ∧ y = kV q := by
  cases k <;> simp [isA] at h
  · cases r; exact ⟨.inl _, rfl, rfl⟩
  · cases r; exact ⟨.inr _, rfl, rfl⟩
theorem isAs_keys {G : Hp} : ∀ {xs : List PyData} {vs : List V}, xs.all isA = true → RpAll G vs xs → ∃ ks : List Key, xs = ks.map keyD ∧ vs = ks.map kV
  | [], _, _, .nil => ⟨[], rfl, rfl⟩
  | x :: xs, _, h, .cons a b => by
    rw [List.all_cons, Bool.and_eq_true] at h
    obtain ⟨q, rfl, rfl⟩ := isA_key h.1 a
    obtain ⟨ks, rfl, rfl⟩ := isAs_keys h.2 b
    exact ⟨q :: ks, rfl, rfl⟩
theorem isKT_keys {G : Hp} {y : V} {k : PyData} (h : isKT k = true) (r : Rp G y k) : ∃ (ks : List Key) (b : Addr), k = .tuple (ks.map keyD) ∧ y = .ref b ∧ G b = some (.tup (ks.map kV)) := by
  cases k <;> simp only [isKT, Bool.false_eq_true] at h
  cases r with
  | tup e r =>
    obtain ⟨ks, rfl, rfl⟩ := isAs_keys h r
    exact ⟨ks, _, rfl, rfl, e⟩
theorem rp_keys {G : Hp} : ∀ ks : List Key, RpAll G (ks.map kV) (ks.map keyD)
  | [] => .nil
  | .inl i :: r => .cons (.int i) (rp_keys r)
  | .inr s :: r => .cons (.str s) (rp_keys r)
theorem rp_key {G : Hp} (k : Key) : Rp G (kV k) (keyD k) := by
  cases k with
  | inl i => exact .int i
  | inr s => exact .str s
theorem flat_key (k : Key) : flat (keyD k) = true := by cases k <;> rfl
theorem flats_keys : ∀ ks : List Key, flats (ks.map keyD) = true
  | [] => rfl
  | k :: r => by rw [List.map_cons, flats, flat_key, flats_keys r]; rfl
theorem RpK.length {G : Hp} : ∀ {kvs : List (Key × V)} {es : Es}, RpK G kvs es → kvs.length = es.length
  | _, _, .nil => rfl
  | _, _, .cons _ b => by rw [List.length_cons, List.length_cons, b.length]
theorem RpT.length {G : Hp} : ∀ {kvs : List (List Key × V)} {es : Es}, RpT G kvs es → kvs.length = es.length
  | _, _, .nil => rfl
  | _, _, .cons _ b => by rw [List.length_cons, List.length_cons, b.length]
theorem RpK.fst {G : Hp} : ∀ {kvs : List (Key × V)} {es : Es}, RpK G kvs es → es.map (·.1) = kvs.map fun p => keyD p.1
  | _, _, .nil => rfl
  | _, _, .cons _ b => by rw [List.map_cons, List.map_cons, b.fst]
theorem RpT.fst {G : Hp} : ∀ {kvs : List (List Key × V)} {es : Es}, RpT G kvs es → es.map (·.1) = kvs.map fun p => PyData.tuple (p.1.map keyD)
  | _, _, .nil => rfl
  | _, _, .cons _ b => by rw [List.map_cons, List.map_cons, b.fst]
theorem RpT.dE {G : Hp} {kvs : List (List Key × V)} {es : Es} (h : RpT G kvs es) : dE es = es ∧ isMk es = false := by
  cases h <;> exact ⟨rfl, rfl⟩
theorem RpK.look {G : Hp} : ∀ {kvs : List (Key × V)} {es : Es}, RpK G kvs es → ∀ k : Key, (valV kvs k).isSome = (lookE es (keyD k)).isSome ∧ ∀ v, valV kvs k = some v → ∃ d, lookE es (keyD k) = some d ∧ Rp G v d
  | _, _, .nil, k => ⟨rfl, fun v h => by cases h⟩
  | _, _, .cons (k := k0) (v := v0) (d := d0) (kvs := kvs) (es := es) a b, k => by
    have q := b.look k
    by_cases e : k0 = k
    · have e1 : valV ((k0, v0) :: kvs) k = some v0 := valV_pos (p := (k0, v0)) e
      have e2 : lookE ((keyD k0, d0) :: es) (keyD k) = some d0 := by unfold lookE; rw [List.find?_cons, eqK_key, decide_eq_true e]; rfl
      rw [e1, e2]
      exact ⟨rfl, fun v h => by cases h; exact ⟨_, rfl, a⟩⟩
    · have e1 : valV ((k0, v0) :: kvs) k = valV kvs k := valV_neg (p := (k0, v0)) e
      have e2 : lookE ((keyD k0, d0) :: es) (keyD k) = lookE es (keyD k) := by unfold lookE; rw [List.find?_cons, eqK_key, decide_eq_false e]
      rw [e1, e2]
      exact q
theorem RpT.look {G : Hp} : ∀ {kvs : List (List Key × V)} {es : Es}, RpT G kvs es → ∀ k : List Key, (valV kvs k).isSome = (lookE es (.tuple (k.map keyD))).isSome ∧ ∀ v, valV kvs k = some v → ∃ d, lookE es (.tuple (k.map keyD)) = some d ∧ Rp G v d
  | _, _, .nil, k => ⟨rfl, fun v h => by cases h⟩
  | _, _, .cons (k := k0) (v := v0) (d := d0) (kvs := kvs) (es := es) a b, k => by
    have q := b.look k
    by_cases e : k0 = k
    · have e1 : valV ((k0, v0) :: kvs) k = some v0 := valV_pos (p := (k0, v0)) e
      have e2 : lookE ((.tuple (k0.map keyD), d0) :: es) (.tuple (k.map keyD)) = some d0 := by unfold lookE; rw [List.find?_cons, eqK_keys, decide_eq_true e]; rfl
      rw [e1, e2]
      exact ⟨rfl, fun v h => by cases h; exact ⟨_, rfl, a⟩⟩
    · have e1 : valV ((k0, v0) :: kvs) k = valV kvs k := valV_neg (p := (k0, v0)) e
      have e2 : lookE ((.tuple (k0.map keyD), d0) :: es) (.tuple (k.map keyD)) = lookE es (.tuple (k.map keyD)) := by unfold lookE; rw [List.find?_cons, eqK_keys, decide_eq_false e]
      rw [e1, e2]
      exact q
theorem RpK.any {G : Hp} (k : Key) : ∀ {kvs : List (Key × V)} {es : Es}, RpK G kvs es → (es.any fun e => eqK e.1 (keyD k)) = kvs.any fun p => decide (p.1 = k)
  | _, _, .nil => rfl
  | _, _, .cons a b => by rw [List.any_cons, List.any_cons, b.any k, eqK_key]
theorem RpT.any {G : Hp} (k : List Key) : ∀ {kvs : List (List Key × V)} {es : Es}, RpT G kvs es → (es.any fun e => eqK e.1 (.tuple (k.map keyD))) = kvs.any fun p => decide (p.1 = k)
  | _, _, .nil => rfl
  | _, _, .cons a b => by rw [List.any_cons, List.any_cons, b.any k, eqK_keys]
theorem RpK.repl {G : Hp} {v : V} {d : PyData} (r : Rp G v d) (k : Key) : ∀ {kvs : List (Key × V)} {es : Es}, RpK G kvs es → RpK G (kvs.map fun kv => if kv.1 = k then (kv.1, v) else kv) (es.map fun e => if eqK e.1 (keyD k) = true then (e.1, d) else e)
  | _, _, .nil => .nil
  | _, _, .cons (k := k0) a b => by
    rw [List.map_cons, List.map_cons, eqK_key]
    by_cases e : k0 = k
    · rw [if_pos e, if_pos (decide_eq_true e)]; exact .cons r (b.repl r k)
    · rw [if_neg e, if_neg (by rw [decide_eq_false e]; exact Bool.false_ne_true)]; exact .cons a (b.repl r k)
theorem RpT.repl {G : Hp} {v : V} {d : PyData} (r : Rp G v d) (k : List Key) : ∀ {kvs : List (List Key × V)} {es : Es}, RpT G kvs es → RpT G (kvs.map fun kv => if kv.1 = k then (kv.1, v) else kv) (es.map fun e => if eqK e.1 (.tuple (k.map keyD)) = true then (e.1, d) else e)
  | _, _, .nil => .nil
  | _, _, .cons (k := k0) a b => by
    rw [List.map_cons, List.map_cons, eqK_keys]
    by_cases e : k0 = k
    · rw [if_pos e, if_pos (decide_eq_true e)]; exact .cons r (b.repl r k)
    · rw [if_neg e, if_neg (by rw [decide_eq_false e]; exact Bool.false_ne_true)]; exact .cons a (b.repl r k)
theorem RpK.snoc {G : Hp} {k : Key} {v : V} {d : PyData} (r : Rp G v d) : ∀ {kvs : List (Key × V)} {es : Es}, RpK G kvs es → RpK G (kvs ++ [(k, v)]) (es ++ [(keyD k, d)])
  | _, _, .nil => .cons r .nil
  | _, _, .cons a b => .cons a (b.snoc r)
theorem RpT.snoc {G : Hp} {k : List Key} {v : V} {d : PyData} (r : Rp G v d) : ∀ {kvs : List (List Key × V)} {es : Es}, RpT G kvs es → RpT G (kvs ++ [(k, v)]) (es ++ [(.tuple (k.map keyD), d)])
  | _, _, .nil => .cons r .nil
  | _, _, .cons a b => .cons a (b.snoc r)
theorem RpK.put {G : Hp} {k : Key} {v : V} {d : PyData} {kvs : List (Key × V)} {es : Es} (h : RpK G kvs es) (r : Rp G v d) : RpK G (putK kvs k v) (putE es (keyD k) d) := by
  unfold putK putE
  rw [h.any k]
  split
  · exact h.repl r k
  · exact h.snoc r
theorem RpT.put {G : Hp} {k : List Key} {v : V} {d : PyData} {kvs : List (List Key × V)} {es : Es} (h : RpT G kvs es) (r : Rp G v d) : RpT G (putK kvs k v) (putE es (.tuple (k.map keyD)) d) := by
  unfold putK putE
  rw [h.any k]
  split
  · exact h.repl r k
  · exact h.snoc r

/-! ### a dict seen in a heap -/
theorem DOk.dct {G : Hp} {u : HO} {es : Es} (h : DOk G u es) : isDct u = true ∧ core u = u ∧ isTup u = false ∧ isFrz u = false ∧ Mut (some u) := by
  rcases h with ⟨kvs, es', rfl, rfl, r⟩ | ⟨kvs, rfl, r⟩ <;> exact ⟨rfl, rfl, rfl, rfl, True.intro⟩
theorem co_dct {H : Hp} {a : Addr} {u : HO} (h : co H a = some u) (hd : isDct u = true) : H a = some u ∨ ∃ od, H a = some (.frz od u) := by
  cases u <;> simp [isDct] at hd
  · exact co_dK h
  · exact co_dT h
theorem core_dct {u : HO} {od : Obj} (hd : isDct u = true) : core (.frz od u) = u := by simp [core, hd]
theorem co_lock {H : Hp} {a : Addr} {u : HO} {od : Obj} (h : H a = some u) (hd : isDct u = true) (hc : core u = u) : co (upd H a (.frz od u)) = co H := by
  rw [co_upd, core_dct hd]
  funext b
  by_cases e : b = a
  · rw [e, upd_same, co_of h, hc]
  · rw [upd_ne e]
theorem co_unlock {H : Hp} {a : Addr} {u : HO} {od : Obj} (h : H a = some (.frz od u)) (hd : isDct u = true) (hc : core u = u) : co (upd H a u) = co H := by
  rw [co_upd, hc]
  funext b
  by_cases e : b = a
  · rw [e, upd_same, co_of h, core_dct hd]
  · rw [upd_ne e]
theorem Env.reco {D0 : Addr → Bool} {S : Slots} {σ : St} {H H' : Hp} {o : Ow} (E : Env D0 S σ H o) (hc : co H' = co H) (hn : ∀ a p, o a = some p → H' a = H a) : Env D0 S σ H' o :=
  ⟨E.len, by rw [hc]; exact E.live, by rw [hc]; exact E.dead, by rw [hc]; exact E.sl, fun a p u e h => E.nf a p u e (by rw [← hn a p e]; exact h)⟩
theorem Val.reco {D0 : Addr → Bool} {H H' : Hp} {o : Ow} {v : V} {d : PyData} {c : Prop} (h : Val D0 o H v d c) (hc : co H' = co H) : Val D0 o H' v d c := by
  unfold Val at h ⊢
  rw [hc]
  exact h
theorem Val.dok {D0 : Addr → Bool} {o : Ow} {H : Hp} {x : V} {es : Es} {c : Prop} (h : Val D0 o H x (.dict es) c) : ∃ a u, x = .ref a ∧ co H a = some u ∧ isDct u = true ∧ DOk (vt D0 o (co H)) u es ∧ (c → DOk (vw D0 o (co H)) u es) := by
  obtain ⟨a, u, rfl, h1, h2⟩ := h.1.dok
  refine ⟨a, u, rfl, vt_le _ _ h1, h2.dct.1, h2, fun hc => ?_⟩
  obtain ⟨a', u', e, h3, h4⟩ := (h.2 hc).dok
  cases e
  have e1 := vt_le _ _ h1
  have e2 := vw_le _ _ h3
  rw [e1] at e2
  cases e2
  exact h4
theorem dget_of {D0 : Addr → Bool} {o : Ow} {H : Hp} {y : V} {k : PyData} {u : HO} {a : Addr} {es : Es} {G : Hp} (hr : co H a = some u) (h : DOk G u es) (hy : Rp (vt D0 o (co H)) y k) (hk : okK es k = true) :
    ∃ ov, DGet H a y ov ∧ ov.isSome = (lookE (dE es) k).isSome ∧ ∀ (G' : Hp), DOk G' u es → ∀ v, ov = some v → ∃ d, lookE (dE es) k = some d ∧ Rp G' v d := by
  rcases h with ⟨kvs, es', rfl, rfl, r⟩ | ⟨kvs, rfl, r⟩
  · have hk' : isA k = true := hk
    obtain ⟨q, rfl, rfl⟩ := isA_key hk' hy
    refine ⟨_, .inl ⟨kvs, q, co_dK hr, rfl, rfl⟩, (r.look q).1, fun G' h' v hv => ?_⟩
    rcases h' with ⟨kvs', es2, e, e2, r'⟩ | ⟨kvs', e2, r'⟩
    · cases e; cases e2
      exact (r'.look q).2 v hv
    · cases e2
  · have hm := r.dE
    have hk' : isKT k = true := by unfold okK at hk; rw [hm.2] at hk; exact hk
    obtain ⟨q, b, rfl, rfl, hb⟩ := isKT_keys hk' hy
    rw [hm.1]
    refine ⟨_, .inr ⟨kvs, q, b, co_dT hr, rfl, co_tup (vt_le _ _ hb), rfl⟩, (r.look q).1, fun G' h' v hv => ?_⟩
    rcases h' with ⟨kvs', es2, e, e2, r'⟩ | ⟨kvs', e2, r'⟩
    · cases e2
    · cases e2
      exact (r'.look q).2 v hv
theorem dput_of {D0 : Addr → Bool} {o : Ow} {H : Hp} {y v : V} {k d : PyData} {u : HO} {a : Addr} {es : Es} {G : Hp} (hr : H a = some u) (h : DOk G u es) (hy : Rp (vt D0 o (co H)) y k) (hk : okK es k = true) (hl : es.length < sizeLine) (rv : Rp G v d) :
    ∃ u', DPut H a y v (upd H a u') ∧ DOk G u' (putD es k d) := by
  rcases h with ⟨kvs, es', rfl, rfl, r⟩ | ⟨kvs, rfl, r⟩
  · have hk' : isA k = true := hk
    obtain ⟨q, rfl, rfl⟩ := isA_key hk' hy
    have hl' : kvs.length < sizeLine := by rw [r.length]; rw [List.length_cons] at hl; omega
    exact ⟨_, DPut.k hr hl', .inl ⟨_, _, rfl, rfl, r.put rv⟩⟩
  · have hm := r.dE
    have hk' : isKT k = true := by unfold okK at hk; rw [hm.2] at hk; exact hk
    obtain ⟨q, b, rfl, rfl, hb⟩ := isKT_keys hk' hy
    refine ⟨_, DPut.t hr (co_tup (vt_le _ _ hb)) (by rw [r.length]; exact hl), .inr ⟨_, rfl, ?_⟩⟩
    unfold putD
    rw [hm.2]
    exact r.put rv

section
variable {X : Cx} {W : WM} {k : Nat} {pos : Pos}
/-! ### d[k]; k in d; d.get(k, x) -/
def wDGet (wd we : WEx) : WEx := fun S A B => wd S (fun d c S1 => match d with
  | .dict es => we S1 (fun k _ S2 => okK es k = true ∧ ∃ v, lookE (dE es) k = some v ∧ A v c S2) B
  | _ => False) B
theorem Val.got {D0 : Addr → Bool} {o : Ow} {H : Hp} {u : HO} {es : Es} {c : Prop} {k : PyData} {ov : Option V} {v : V} {d : PyData} (h1 : DOk (vt D0 o (co H)) u es) (h2 : c → DOk (vw D0 o (co H)) u es)
    (g : ∀ (G' : Hp), DOk G' u es → ∀ v, ov = some v → ∃ d, lookE (dE es) k = some d ∧ Rp G' v d) (hv : ov = some v) (hd : lookE (dE es) k = some d) : Val D0 o H v d c := by
  refine ⟨?_, fun hc => ?_⟩
  · obtain ⟨d', e, r⟩ := g _ h1 v hv
    rw [hd] at e; cases e; exact r
  · obtain ⟨d', e, r⟩ := g _ (h2 hc) v hv
    rw [hd] at e; cases e; exact r
theorem se_dget {o i : Expr} {wd we : WEx} (a : At X W k) (ho : SE X W o wd) (hi : SE X W i we) (hs : NoSl i := by exact fun _ _ => rfl) : SE X W (.Subscript o i pos) (wDGet wd we) := by
  obtain ⟨td, pd, sd⟩ := ho.ex
  obtain ⟨ti, pi, si⟩ := hi.ex
  refine ⟨_, pe_dget a.u1 pd pi hs, ?_⟩
  intro D0 S σ H o A B Q E hw kk kx
  refine sd D0 S σ H o _ B _ E hw (fun d c S1 x H1 h1 E1 x1 V1 => ?_) kx
  split at h1
  · rename_i es
    refine si D0 S1 σ H1 o _ B _ E1 h1 (fun k ck S2 y H2 h2 E2 x2 V2 => ?_) (kx.on x1)
    obtain ⟨hk, v, hv, h2⟩ := h2
    obtain ⟨ad, u, rfl, hr, hd, d1, d2⟩ := (V1.mono x2).dok
    obtain ⟨ov, g, hso, gg⟩ := dget_of hr d1 V2.1 hk
    rw [hv] at hso
    cases ov with
    | none => cases hso
    | some z => exact ⟨ad, z, rfl, g, kk v c S2 z H2 h2 E2 (x1.trans x2) (Val.got d1 d2 gg rfl hv)⟩
  · exact h1.elim

theorem snd_din {b : Bool} {ti td : TE} {we wd : WEx} (si : Snd W ti we) (sd : Snd W td wd) : ∀ (D0 : Addr → Bool) (S : Slots) (σ : St) (H : Hp) (o : Ow) (A : Bool → Slots → Prop) (B : EK) (Q : VK), Env D0 S σ H o →
    we S (fun k _ S1 => wd S1 (fun d _ S2 => match d with
      | .dict es => okK es k = true ∧ A (b != (lookE (dE es) k).isSome) S2
      | _ => False) B) B → (∀ z S' H', A z S' → Env D0 S' σ H' o → XE o H H' → Q (.bl z) H') → Xw W D0 σ o H B → ti σ H fun y H1 => td σ H1 fun x H2 => ∃ a ov, x = .ref a ∧ DGet H2 a y ov ∧ Q (.bl (b != ov.isSome)) H2 := by
  intro D0 S σ H o A B Q E hw kk kx
  refine si D0 S σ H o _ B _ E hw (fun k ck S1 y H1 h1 E1 x1 V1 => ?_) kx
  refine sd D0 S1 σ H1 o _ B _ E1 h1 (fun d c S2 x H2 h2 E2 x2 V2 => ?_) (kx.on x1)
  split at h2
  · obtain ⟨hk, h2⟩ := h2
    obtain ⟨ad, u, rfl, hr, hd, d1, d2⟩ := V2.dok
    obtain ⟨ov, g, hso, gg⟩ := dget_of hr d1 (V1.mono x2).1 hk
    exact ⟨ad, ov, rfl, g, by rw [hso]; exact kk _ S2 H2 h2 E2 (x1.trans x2)⟩
  · exact h2.elim
def wDIn (b : Bool) (we wd : WEx) : WEx := fun S A B => we S (fun k _ S1 => wd S1 (fun d _ S2 => match d with
  | .dict es => okK es k = true ∧ A (.bool (b != (lookE (dE es) k).isSome)) True S2
  | _ => False) B) B
def wDInT (b : Bool) (we wd : WEx) : WTx := fun S A B => we S (fun k _ S1 => wd S1 (fun d _ S2 => match d with
  | .dict es => okK es k = true ∧ A (b != (lookE (dE es) k).isSome) S2
  | _ => False) B) B
theorem bne_f (b : Bool) : (false != b) = b := by cases b <;> rfl
theorem bne_t (b : Bool) : (true != b) = !b := by cases b <;> rfl
theorem se_din {i d : Expr} {we wd : WEx} (a : At X W k) (hi : SE X W i we) (hd : SE X W d wd) (hm : behindInMarks .In d = false := by rfl) : SE X W (.Compare i [.In] [d] pos) (wDIn false we wd) := by
  obtain ⟨ti, pi, si⟩ := hi.ex
  obtain ⟨td, pd, sd⟩ := hd.ex
  refine ⟨_, pe_cmp (pc_din a.u1 pi pd) hm, ?_⟩
  intro D0 S σ H o A B Q E hw kk kx
  have q := snd_din (b := false) si sd D0 S σ H o (fun z S' => A (.bool z) True S') B Q E hw (fun z S' H' hz E' x => kk _ _ _ _ _ hz E' x (Val.of (.bl _))) kx
  simp only [bne_f] at q
  exact q
theorem se_dnotin {i d : Expr} {we wd : WEx} (a : At X W k) (hi : SE X W i we) (hd : SE X W d wd) (hm : behindInMarks .NotIn d = false := by rfl) : SE X W (.Compare i [.NotIn] [d] pos) (wDIn true we wd) := by
  obtain ⟨ti, pi, si⟩ := hi.ex
  obtain ⟨td, pd, sd⟩ := hd.ex
  refine ⟨_, pe_cmp (pc_dnotin a.u1 pi pd) hm, ?_⟩
  intro D0 S σ H o A B Q E hw kk kx
  have q := snd_din (b := true) si sd D0 S σ H o (fun z S' => A (.bool z) True S') B Q E hw (fun z S' H' hz E' x => kk _ _ _ _ _ hz E' x (Val.of (.bl _))) kx
  simp only [bne_t] at q
  exact q
theorem st_din {i d : Expr} {we wd : WEx} (a : At X W k) (hi : SE X W i we) (hd : SE X W d wd) (hm : behindInMarks .In d = false := by rfl) : ST X W (.Compare i [.In] [d] pos) (wDInT false we wd) := by
  obtain ⟨ti, pi, si⟩ := hi.ex
  obtain ⟨td, pd, sd⟩ := hd.ex
  refine ⟨_, pt_cmp (pc_din a.u1 pi pd) hm, ?_⟩
  intro D0 S σ H o A B Q E hw kk kx
  have q := snd_din (b := false) si sd D0 S σ H o A B (fun x H1 => ∃ c, x = .bl c ∧ Q c H1) E hw (fun z S' H' hz E' x => ⟨_, rfl, kk _ _ _ hz E' x⟩) kx
  simp only [bne_f] at q
  exact q
theorem st_dnotin {i d : Expr} {we wd : WEx} (a : At X W k) (hi : SE X W i we) (hd : SE X W d wd) (hm : behindInMarks .NotIn d = false := by rfl) : ST X W (.Compare i [.NotIn] [d] pos) (wDInT true we wd) := by
  obtain ⟨ti, pi, si⟩ := hi.ex
  obtain ⟨td, pd, sd⟩ := hd.ex
  refine ⟨_, pt_cmp (pc_dnotin a.u1 pi pd) hm, ?_⟩
  intro D0 S σ H o A B Q E hw kk kx
  have q := snd_din (b := true) si sd D0 S σ H o A B (fun x H1 => ∃ c, x = .bl c ∧ Q c H1) E hw (fun z S' H' hz E' x => ⟨_, rfl, kk _ _ _ hz E' x⟩) kx
  simp only [bne_t] at q
  exact q
/-- d.get(k, x) -/
def wDGet2 (wd we wx : WEx) : WEx := fun S A B => wd S (fun d c S1 => match d with
  | .dict es => we S1 (fun k _ S2 => wx S2 (fun x cx S3 => okK es k = true ∧ match lookE (dE es) k with
    | some v => A v c S3
    | none => A x cx S3) B) B
  | _ => False) B
theorem se_dget2 {o e f : Expr} {apos cpos : Pos} {wd we wx : WEx} (a : At X W k) (ho : SE X W o wd) (he : SE X W e we) (hf : SE X W f wx)
    (hb : attributeBase o "get" X.env (eval o X.env) = eval o X.env := by rfl)
    (hfew : ((backTo cpos (starEach [e, f] X.env)).all (fun x => !x.1) && (backToKw cpos (keywordEach [] X.env)).all (fun x => x.1.isSome) && decide (([e, f] : List Expr).length + ([] : List Keyword).length + (if ([] : List Keyword).isEmpty then 0 else 1) < 30)) = true := by rfl)
    (hl : (apos.endLine == cpos.line) = true := by rfl) (ht : backTo cpos (starEach [e, f] X.env) = [(false, eval e X.env), (false, eval f X.env)] := by rfl) :
    SE X W (.Call (.Attribute o "get" apos) [e, f] [] cpos) (wDGet2 wd we wx) := by
  obtain ⟨td, pd, sd⟩ := ho.ex
  obtain ⟨ti, pi, si⟩ := he.ex
  obtain ⟨tx, px, sx⟩ := hf.ex
  refine ⟨_, pe_dget2 a.u1 pd pi px ⟨hb, hfew, hl, ht⟩, ?_⟩
  intro D0 S σ H o A B Q E hw kk kx
  refine sd D0 S σ H o _ B _ E hw (fun d c S1 x H1 h1 E1 x1 V1 => ?_) kx
  split at h1
  · rename_i es
    obtain ⟨ad0, u0, e0, hr0, hd0, dd0, _⟩ := V1.dok
    cases e0
    have isd : IsD H1 ad0 := by
      rcases dd0 with ⟨kvs, es', rfl, rfl, r⟩ | ⟨kvs, rfl, r⟩
      · exact .inl ⟨kvs, co_dK hr0⟩
      · exact .inr ⟨kvs, co_dT hr0⟩
    refine ⟨ad0, rfl, isd, ?_⟩
    refine si D0 S1 σ H1 o _ B _ E1 h1 (fun k ck S2 y H2 h2 E2 x2 V2 => ?_) (kx.on x1)
    refine sx D0 S2 σ H2 o _ B _ E2 h2 (fun xd cx S3 z H3 h3 E3 x3 V3 => ?_) (kx.on (x1.trans x2))
    obtain ⟨hk, h3⟩ := h3
    obtain ⟨ad, u, e, hr, hd, d1, d2⟩ := ((V1.mono x2).mono x3).dok
    cases e
    obtain ⟨ov, g, hso, gg⟩ := dget_of hr d1 (V2.mono x3).1 hk
    refine ⟨ov, g, ?_⟩
    cases ov with
    | none =>
      cases hv : lookE (dE es) k with
      | some v => rw [hv] at hso; cases hso
      | none => rw [hv] at h3; exact kk xd cx S3 z H3 h3 E3 ((x1.trans x2).trans x3) V3
    | some w =>
      cases hv : lookE (dE es) k with
      | none => rw [hv] at hso; cases hso
      | some v => rw [hv] at h3; exact kk v c S3 w H3 h3 E3 ((x1.trans x2).trans x3) (Val.got d1 d2 gg rfl hv)
  · exact h1.elim

/-! ### d[k] = v -/
theorem Env.wrD {D0 : Addr → Bool} {S : Slots} {σ : St} {H : Hp} {o : Ow} {p : Addr} {i : Nat} {u : HO} {es : Es} (E : Env D0 S σ H o) (hs : i < S.length) (hσ : σ[i]? = some (some (.ref p))) (h : o p = some (i, false)) (r : DOk (vw D0 o (co H)) u es) :
    Env D0 (S.set i (.od es)) σ (upd H p u) o := by
  have hc := r.dct
  have at_ : ∀ {a : Addr} {w : HO}, a ≠ p → co H a = some w → co (upd H p u) a = some w := fun {a w} n e => by rw [co_upd, upd_ne n]; exact e
  have cp : co (upd H p u) p = some u := by rw [co_of upd_same, hc.2.1]
  refine ⟨by rw [List.length_set]; exact E.len, fun a q e => ?_, fun a e => ?_, fun j s e => ?_, E.nf_wr hc.2.2.2.1⟩
  · by_cases z : a = p
    · subst z
      exact ⟨(E.live _ _ h).1, _, cp, hc.2.2.1⟩
    · obtain ⟨h1, w, h2, h3⟩ := E.live a q e
      exact ⟨h1, w, at_ z h2, h3⟩
  · have ne : a ≠ p := fun z => by rw [z, (E.live _ _ h).1] at e; cases e
    obtain ⟨w, h2, h3⟩ := E.dead a e
    exact ⟨w, at_ ne h2, h3⟩
  · by_cases z : i = j
    · subst z
      rw [List.getElem?_set_self hs] at e
      cases e
      exact ⟨p, u, hσ, h, cp, by rw [ow_vw h]; exact r⟩
    · rw [List.getElem?_set_ne z] at e
      have ne : ∀ {a : Addr} {b : Bool}, o a = some (j, b) → a ≠ p := fun {a b} e1 e2 => by rw [e2, h] at e1; cases e1; exact z rfl
      exact (E.sl j s e).move (by rw [ow_vw h]; exact Le.refl _) fun a b w h1 h2 => ⟨h1, at_ (ne h1) h2⟩
def wDPut (i : Nat) (we wv : WEx) : WS := fun S P => wv S (fun v cv S1 => (∃ es, S1[i]? = some (.od es)) ∧ we S1 (fun k _ S2 => match S2[i]? with
  | some (.od es) => okK es k = true ∧ es.length < sizeLine ∧ (cv ∨ flat v = true) ∧ P.nx (S2.set i (.od (putD es k v)))
  | _ => False) P.ex) P.ex
theorem ss_dput (i : Nat) {x : Str} {e v : Expr} {p pos' : Pos} {we wv : WEx} (a : At X W k) (he : SE X W e we) (hv : SE X W v wv) (hN : X.N[i]? = some x := by rfl) (hvs : Vis X.env.scope x := by first | exact Or.inl rfl | exact Or.inr (Or.inl rfl) | exact Or.inr (Or.inr rfl))
    (hd : (x == ("__debug__" : Str)) = false := by decide) (hcd : (x == ("__classdict__" : Str)) = false := by decide)
    (hs : swapsWith v (some (.Subscript (.Name x p) e pos')) pos.line X.env = pure false := by rfl) : SS X W (.Assign [.Subscript (.Name x p) e pos'] v pos) (wDPut i we wv) := by
  obtain ⟨te, pe, se⟩ := he.ex
  obtain ⟨tv, pv, sv⟩ := hv.ex
  refine ⟨_, ps_dput a.u1 (pe_var hN hvs hd hcd) pe pv hs, ?_⟩
  intro D0 S σ H o P D E hw g
  refine sv D0 S σ H o _ P.ex _ E hw (fun vd cv S1 v1 H1 h1 E1 x1 V1 => ?_) g.xw
  obtain ⟨⟨es0, hs0⟩, h1⟩ := h1
  obtain ⟨ad, u0, q1, q2, q3, q4⟩ := E1.sl i _ hs0
  refine ⟨.ref ad, q1, ?_⟩
  refine se D0 S1 σ H1 o _ P.ex _ E1 h1 (fun kd ck S2 y H2 h2 E2 x2 V2 => ?_) (g.xw.on x1)
  split at h2
  · rename_i es hs2
    obtain ⟨hk, hl, hc, h2⟩ := h2
    obtain ⟨ad', u, e1, e2, e3, e4⟩ := E2.sl i _ hs2
    rw [q1] at e1
    cases e1
    have hraw : H2 ad = some u := by
      rcases co_dct e3 e4.dct.1 with z | ⟨od, z⟩
      · exact z
      · have := E2.nf _ _ _ e2 z
        cases this
    obtain ⟨u', dp, dok⟩ := dput_of hraw e4 V2.1 hk hl (((V1.mono x2).flat E2).2 hc)
    exact ⟨ad, _, rfl, dp, g.nx _ _ _ _ h2 (E2.wrD (E2.lt hs2) q1 e2 dok) (((x1.trans x2).fr).trans (fr_wr e2))⟩
  · exact h2.elim

/-! ### new dicts -/
abbrev WD := Slots → (Es → Prop → Slots → Prop) → EK → Prop
def SndD (W : WM) (t : TE) (w : WD) : Prop := ∀ (D0 : Addr → Bool) (S : Slots) (σ : St) (H : Hp) (o : Ow) (A : Es → Prop → Slots → Prop) (B : EK) (Q : VK), Env D0 S σ H o → w S A B →
  (∀ es c S' p u H1, A es c S' → Env D0 S' σ H1 o → XE o H H1 → H1 p = none → DOk (vt D0 o (co H1)) u es → (c → DOk (vw D0 o (co H1)) u es) → Q (.ref p) (upd H1 p u)) → Xw W D0 σ o H B → t σ H Q
structure SD (X : Cx) (W : WM) (e : Expr) (w : WD) : Prop where
  ex : ∃ t, PE X e t ∧ SndD W t w
def wDK : WD := fun S A _ => A [(.none, .none)] True S
def wDT : WD := fun S A _ => A [] True S
theorem sd_newK : SD X W (.Dict [] [] pos) wDK := ⟨_, pe_dnewK, fun D0 S σ H o A B Q E hw kk kx p hp => kk _ _ S p _ H hw E (XE.refl o H) hp (.inl ⟨[], [], rfl, rfl, .nil⟩) fun _ => .inl ⟨[], [], rfl, rfl, .nil⟩⟩
theorem sd_newT : SD X W (.Dict [] [] pos) wDT := ⟨_, pe_dnewT, fun D0 S σ H o A B Q E hw kk kx p hp => kk _ _ S p _ H hw E (XE.refl o H) hp (.inr ⟨[], rfl, .nil⟩) fun _ => .inr ⟨[], rfl, .nil⟩⟩
/-- {k: v}, the key a tuple; the new dict stands empty while the pair is made -/
def tDisp1 (tk tv : TE) : TE := fun σ H Q => ∀ p, H p = none → tk σ (upd H p (.dT [])) fun x H1 => tv σ H1 fun y H2 => H2 p = some (.dT []) ∧ ∃ (b : Addr) (ks : List Key), x = .ref b ∧ H2 b = some (.tup (ks.map kV)) ∧ Q (.ref p) (upd H2 p (.dT (putK [] ks y)))
theorem pe_disp1 {ke ve : Expr} {tk tv : TE} (a : At X W k) (hk : PE X ke tk) (hv : PE X ve tv) : PE X (.Dict [some ke] [ve] pos) (tDisp1 tk tv) := by
  refine ⟨fun pins s σ H Q I q => ?_⟩
  have hn := I.hok.fresh (Nat.le_refl s.heap.objs.size)
  have I1 := I.laid (a := s.heap.objs.size) (o := .dT []) (h' := s.heap.push { cls := .type "dict", data := .dict #[] }) (t' := s.toks) (fun _ _ q => Heap.get?_push_of_some _ q) (Nat.le_refl _) (dt_empty s.heap I.big)
  refine wpAny_Dict_any rfl rfl (by simp) (by simp) ?_
  refine pairTrees_cons_walk (thn (hk.run pins _ σ _ _ I1 (q _ hn)) fun u s1 ⟨x, H1, I2, rx, q1⟩ => thn (hv.run pins s1 σ H1 _ I2 q1) fun w2 s2 ⟨y, H2, I3, ry, e, b, ks, ex, eb, q2⟩ => pairTrees_nil_walk ?_)
  subst ex
  obtain rfl : u = Value.ref b := rx
  obtain ⟨z, hd, xs, rel, dd⟩ := dt_of I3.hok e
  cases rel
  unfold storeAll
  rw [List.forIn_cons]
  refine wpAny_bind (wpAny_bind (wpAny_dictSet_heap (hsz := by simp) ((show X.A.units < cLine from Nat.lt_of_succ_lt a.u1)) (key_of I3.hok eb) dd fun h' dd' hs => wpAny_pure ?_))
  show wpAny _ _ (forIn [] PUnit.unit _) _ _ _
  rw [List.forIn_nil]
  refine wpAny_pure ?_
  refine ⟨.ref s.heap.objs.size, _, ?_, rfl, q2⟩
  have rel0 : KT H2 ([] : List (List Key × V)) [] := .nil
  obtain ⟨q, es, ep, hq, h2, h3, h4, _, h5⟩ := dd'
  refine d_write I3 (by rw [e]; exact True.intro) hs ⟨q, hq⟩ ⟨?_, hd, _, (rel0.put ks eb ry).keeps fun c ys ec => ?_, q, es, ep, hq, h2, h3, h4, h5⟩
  · have := length_putK ([] : List (List Key × V)) ks y
    rw [sizeLine_eq]
    simp only [List.length_nil] at this
    omega
  · rw [upd_ne (ne_of ec e (fun z => nomatch z))]
    exact ec
def wDisp1 (wk wv : WEx) : WD := fun S A B => wk S (fun k _ S1 => wv S1 (fun v cv S2 => isKT k = true ∧ A [(k, v)] cv S2) noX) noX
theorem sd_disp1 {ke ve : Expr} {wk wv : WEx} (a : At X W k) (hk : SE X W ke wk) (hv : SE X W ve wv) : SD X W (.Dict [some ke] [ve] pos) (wDisp1 wk wv) := by
  obtain ⟨tk, pk, sk⟩ := hk.ex
  obtain ⟨tv, pv, sv⟩ := hv.ex
  refine ⟨_, pe_disp1 a pk pv, ?_⟩
  intro D0 S σ H o A B Q E hw kk kx p hp
  have dD := (E.new hp).1
  have oD := (E.new hp).2
  have hr : rm (upd H p (.dT [])) p = H := by rw [rm_upd, rm_none hp]
  have E0 : Env (plus D0 p) S σ (upd H p (.dT [])) o := Env.hide (by rw [hr]; exact E) upd_same rfl
  have no : ∀ {H'}, Xw W (plus D0 p) σ o H' noX := fun _ _ _ _ _ h => h.elim
  refine sk (plus D0 p) S σ _ o _ noX _ E0 hw (fun kd ck S1 x H1 h1 E1 x1 V1 => ?_) no
  refine sv (plus D0 p) S1 σ H1 o _ noX _ E1 h1 (fun vd cv S2 y H2 h2 E2 x2 V2 => ?_) no
  obtain ⟨hkt, h2⟩ := h2
  obtain ⟨ks, b, rfl, rfl, hb⟩ := isKT_keys hkt (V1.mono x2).1
  have xx := x1.trans x2
  refine ⟨xx p _ (by rw [oD]; rfl) upd_same, b, ks, rfl, co_tup (vt_le _ _ hb), ?_⟩
  have xr := xx.rm (D := p)
  rw [hr] at xr
  have q := kk [(.tuple (ks.map keyD), vd)] cv S2 p (.dT (putK [] ks y)) (rm H2 p) h2 (Env.show_ dD oD E2) xr rm_at (.inr ⟨[(ks, y)], rfl, .cons (by rw [← vt_plus]; exact V2.1) .nil⟩) fun hc => .inr ⟨[(ks, y)], rfl, .cons (by rw [← vw_plus]; exact V2.2 hc) .nil⟩
  have e : upd (rm H2 p) p (.dT (putK [] ks y)) = upd H2 p (.dT (putK [] ks y)) := by
    funext c
    unfold upd rm
    by_cases z : c = p
    · rw [if_pos z, if_pos z]
    · rw [if_neg z, if_neg z, if_neg z]
  rw [e] at q
  exact q
def fvals (es : Es) : Bool := es.all fun e => flat e.2
theorem RpK.flatV {G G' : Hp} (h : ∀ a xs, G a = some (.tup xs) → G' a = some (.tup xs)) : ∀ {kvs : List (Key × V)} {es : Es}, RpK G kvs es → fvals es = true → RpK G' kvs es
  | _, _, .nil, _ => .nil
  | _, _, .cons a b, f => by
    unfold fvals at f
    rw [List.all_cons, Bool.and_eq_true] at f
    exact .cons (a.flat h f.1) (b.flatV h f.2)
theorem RpT.flatV {G G' : Hp} (h : ∀ a xs, G a = some (.tup xs) → G' a = some (.tup xs)) : ∀ {kvs : List (List Key × V)} {es : Es}, RpT G kvs es → fvals es = true → RpT G' kvs es
  | _, _, .nil, _ => .nil
  | _, _, .cons a b, f => by
    unfold fvals at f
    rw [List.all_cons, Bool.and_eq_true] at f
    exact .cons (a.flat h f.1) (b.flatV h f.2)
theorem DOk.clean {D0 : Addr → Bool} {S : Slots} {σ : St} {H : Hp} {o : Ow} {u : HO} {es : Es} {c : Prop} (E : Env D0 S σ H o) (h1 : DOk (vt D0 o (co H)) u es) (h2 : c → DOk (vw D0 o (co H)) u es) (hc : c ∨ fvals es = true) : DOk (vw D0 o (co H)) u es := by
  rcases hc with hc | f
  · exact h2 hc
  · rcases h1 with ⟨kvs, es', rfl, rfl, r⟩ | ⟨kvs, rfl, r⟩
    · refine .inl ⟨kvs, es', rfl, rfl, r.flatV E.vtw ?_⟩
      unfold fvals at f ⊢
      rw [List.all_cons, Bool.and_eq_true] at f
      exact f.2
    · exact .inr ⟨kvs, rfl, r.flatV E.vtw f⟩
/-- a new dict becomes the frame's own -/
theorem Env.ownD {D0 : Addr → Bool} {S : Slots} {σ : St} {H : Hp} {o : Ow} {p : Addr} {u : HO} (E : Env D0 S σ H o) (i : Nat) (h : H p = none) (hc : isDct u = true ∧ core u = u ∧ isTup u = false ∧ isFrz u = false ∧ Mut (some u)) :
    Env D0 S σ (upd H p u) (ow1 o p i) ∧ vw D0 (ow1 o p i) (co (upd H p u)) = vw D0 o (co H) := by
  have nw := E.new h
  have le : Le (co H) (co (upd H p u)) := (Le.new h).co
  have oe : ∀ {a : Addr}, a ≠ p → ow1 o p i a = o a := fun {a} n => if_neg n
  have ne : ∀ {a : Addr} {q : Nat × Bool}, o a = some q → a ≠ p := fun {a q} e z => by rw [z, nw.2] at e; cases e
  refine ⟨⟨E.len, fun a q e => ?_, fun a e => ?_, fun j s e => ?_, nf_own E h hc.2.2.2.1⟩, vw_ow h⟩
  · by_cases z : a = p
    · subst z
      exact ⟨nw.1, _, co_of upd_same, by rw [hc.2.1]; exact hc.2.2.1⟩
    · rw [oe z] at e
      obtain ⟨h1, w, h2, h3⟩ := E.live a q e
      exact ⟨h1, w, le _ _ h2, h3⟩
  · obtain ⟨w, h2, h3⟩ := E.dead a e
    exact ⟨w, le _ _ h2, h3⟩
  · exact (E.sl j s e).move (by rw [vw_ow h]; exact Le.refl _) fun a b w h1 h2 => ⟨by rw [oe (ne h1)]; exact h1, le _ _ h2⟩
def wOwnD (i : Nat) (wd : WD) : WS := fun S P => wd S (fun es c S1 => (c ∨ fvals es = true) ∧ P.nx (S1.set i (.od es))) P.ex
theorem ss_ownD (i : Nat) {x : Str} {e : Expr} {p : Pos} {wd : WD} (a : At X W k) (he : SD X W e wd) (hi : X.N[i]? = some x := by rfl) (hx : Loc X.env.scope x := by first | exact Or.inl rfl | exact Or.inr rfl) (hs : swapsWith e (some (.Name x p)) pos.line X.env = pure false := by rfl) (hf : X.fn x = true ∨ X.env.scope.names.lookup x = some .local := by first | exact .inl rfl | exact .inr rfl) :
    SS X W (.Assign [.Name x p] e pos) (wOwnD i wd) := by
  obtain ⟨te, pe, se⟩ := he.ex
  refine ⟨_, ps_set a.nd hi hx pe hs hf, ?_⟩
  intro D0 S σ H o P D E hw g
  refine se D0 S σ H o _ P.ex _ E hw (fun es c S1 q u H1 h1 E1 x1 hq d1 d2 => ?_) g.xw
  have dk := DOk.clean E1 d1 d2 h1.1
  obtain ⟨E2, ev⟩ := E1.ownD i hq dk.dct
  refine g.nx _ _ _ _ h1.2 (E2.putM (m := .d es) i ⟨q, u, rfl, if_pos rfl, upd_same, dk.dct.2.1, by rw [ev]; exact dk⟩) (x1.fr.trans (fr_own (D0 := D0) (S := S1) (σ := σ) hq))
/-- .. among the values of a tuple -/
def wMD (wd : WD) (wr : WMi) : WMi := fun S A B => wd S (fun es c S1 => (c ∨ fvals es = true) ∧ wr S1 (fun ms S2 => A (.d es :: ms) S2) B) B
theorem sm_d (j : Nat) {e : Expr} {es : List Expr} {js : List Nat} {wd : WD} {wr : WMi} (he : SD X W e wd) (hr : SM X W es js wr) (hst : starEach (e :: es) X.env = (false, eval e X.env) :: starEach es X.env := by rfl) : SM X W (e :: es) (j :: js) (wMD wd wr) := by
  obtain ⟨te, pe, se⟩ := he.ex
  obtain ⟨tr, pr, sr⟩ := hr.ex
  refine ⟨_, pa_cons pe pr hst, ?_⟩
  intro D0 S σ H o A B Q E hw k kx
  refine se D0 S σ H o _ B _ E hw (fun ents c S1 p u H1 h1 E1 x1 hp d1 d2 => ?_) kx.xw
  have dk := DOk.clean E1 d1 d2 h1.1
  obtain ⟨E2, ev⟩ := E1.ownD j hp dk.dct
  have f1 : FrM o H (ow1 o p j) (upd H1 p u) := x1.frM.trans (frM_own hp)
  refine sr D0 S1 σ _ _ _ B _ E2 h1.2 (fun ms S2 us H2 o2 h2 E3 f2 M2 => ?_) (kx.on f1.fr)
  exact k _ S2 _ H2 o2 h2 E3 (f1.trans f2) (.cons (MiOk.on (m := .d ents) f2 ⟨p, u, rfl, if_pos rfl, upd_same, dk.dct.2.1, by rw [ev]; exact dk⟩) M2)

/-! ### x = y: what y holds is nobody's own from here on -/
theorem Env.fz {D0 : Addr → Bool} {S : Slots} {σ : St} {H : Hp} {o : Ow} {j : Nat} {a : Addr} {u : HO} {d : PyData} (E : Env D0 S σ H o) (hj : j < S.length) (hσ : σ[j]? = some (some (.ref a))) (ho : o a = some (j, false)) (hu : co H a = some u)
    (hr : ∀ G, Le (vw D0 o (co H)) G → G a = some u → Rp G (.ref a) d) : ∃ o', Env D0 (S.set j (.im d)) σ H o' ∧ Fr o H o' H ∧ Rp (vw D0 o' (co H)) (.ref a) d := by
  have la := E.live a _ ho
  have hv : Le (vw D0 o (co H)) (vw D0 (fun b => if b = a then none else o b) (co H)) := fun b w e => by
    unfold vw at e ⊢
    split at e
    · cases e
    · rename_i hn
      rw [if_neg]
      · exact e
      · intro z
        apply hn
        rw [Bool.or_eq_true] at z ⊢
        rcases z with z | z
        · exact .inl z
        · by_cases q : b = a
          · simp [q] at z
          · simp only [if_neg q] at z
            exact .inr z
  have hva : vw D0 (fun b => if b = a then none else o b) (co H) a = some u := vw_at la.1 (by simp) hu
  have rp := hr _ hv hva
  refine ⟨fun b => if b = a then none else o b, ⟨by rw [List.length_set]; exact E.len, fun b p e => ?_, E.dead, fun i s e => ?_, fun b p w e h => ?_⟩, fun b w n h => ⟨h, ?_⟩, rp⟩
  · by_cases q : b = a
    · simp [q] at e
    · simp only [if_neg q] at e
      exact E.live b p e
  · by_cases q : j = i
    · subst q
      rw [List.getElem?_set_self hj] at e
      cases e
      exact ⟨.ref a, hσ, rp⟩
    · rw [List.getElem?_set_ne q] at e
      exact (E.sl i s e).move hv fun b bb w h1 h2 => ⟨by rw [if_neg (fun z => by rw [z, ho] at h1; cases h1; exact q rfl)]; exact h1, h2⟩
  · by_cases q : b = a
    · simp [q] at e
    · simp only [if_neg q] at e
      exact E.nf b p w e h
  · by_cases q : b = a
    · simp [q]
    · simp only [if_neg q]; exact n
/-- slot j may be given away -/
def fzS (j : Nat) (S : Slots) : Option (PyData × Slots) := match S[j]? with
  | some (.im d) => some (d, S)
  | some (.ol xs) => some (.list xs, S.set j (.im (.list xs)))
  | some (.od es) => some (.dict es, S.set j (.im (.dict es)))
  | _ => none
theorem Env.fzS {D0 : Addr → Bool} {S : Slots} {σ : St} {H : Hp} {o : Ow} {j : Nat} {d : PyData} {S' : Slots} (E : Env D0 S σ H o) (h : fzS j S = some (d, S')) : ∃ o' v, σ[j]? = some (some v) ∧ Env D0 S' σ H o' ∧ Fr o H o' H ∧ Rp (vw D0 o' (co H)) v d ∧ S'[j]? = some (.im d) := by
  unfold Pu.fzS at h
  split at h
  · rename_i d' hs
    cases h
    obtain ⟨v, h1, h2⟩ := E.sl j _ hs
    exact ⟨o, v, h1, E, Fr.refl _ _, h2, hs⟩
  · rename_i xs hs
    cases h
    obtain ⟨a, vs, h1, h2, h3, h4⟩ := E.sl j _ hs
    obtain ⟨o', E', f, r⟩ := E.fz (E.lt hs) h1 h2 h3 (fun G le hG => .lst hG (h4.mono le))
    exact ⟨o', _, h1, E', f, r, List.getElem?_set_self (E.lt hs)⟩
  · rename_i es hs
    cases h
    obtain ⟨a, u, h1, h2, h3, h4⟩ := E.sl j _ hs
    obtain ⟨o', E', f, r⟩ := E.fz (E.lt hs) h1 h2 h3 (fun G le hG => (h4.mono le).rp hG)
    exact ⟨o', _, h1, E', f, r, List.getElem?_set_self (E.lt hs)⟩
  · cases h
def wMv (i j : Nat) : WS := fun S P => match fzS j S with
  | some (d, S') => P.nx (S'.set i (.im d))
  | none => False
theorem ss_mv (i j : Nat) {x y : Str} {p q : Pos} (a : At X W k) (hi : X.N[i]? = some x := by rfl) (hx : Loc X.env.scope x := by first | exact Or.inl rfl | exact Or.inr rfl) (hs : swapsWith (.Name y q) (some (.Name x p)) pos.line X.env = pure false := by rfl) (hf : X.fn x = true ∨ X.env.scope.names.lookup x = some .local := by first | exact .inl rfl | exact .inr rfl)
    (hN : X.N[j]? = some y := by rfl) (hv : Vis X.env.scope y := by first | exact Or.inl rfl | exact Or.inr (Or.inl rfl) | exact Or.inr (Or.inr rfl)) (hd : (y == ("__debug__" : Str)) = false := by decide) (hcd : (y == ("__classdict__" : Str)) = false := by decide) :
    SS X W (.Assign [.Name x p] (.Name y q) pos) (wMv i j) := by
  refine ⟨_, ps_set a.nd hi hx (pe_var hN hv hd hcd) hs hf, ?_⟩
  intro D0 S σ H o P D E hw g
  unfold wMv at hw
  split at hw
  · rename_i d S' hz
    obtain ⟨o', v, h1, E', f, r, _⟩ := E.fzS hz
    exact ⟨v, h1, g.nx _ _ _ _ hw (E'.put i r) f⟩
  · exact hw.elim
end
end Pu

namespace Pu
open PySem L2

section
variable {X : Cx} {W : WM} {k : Nat} {pos : Pos}
/-! ### for k in d: the dict is locked while its keys are walked -/
def zD (a : Addr) (od : Obj) (u : HO) : (Addr → Bool) → Ow → Hp → Prop := fun _ o H => H a = some (.frz od u) ∧ o a = none
theorem wk_K {a : Addr} {od : Obj} {kvs : List (Key × V)} : Wk (Itk a od kvs) (kvs.map fun p => keyD p.1) True (zD a od (.dK kvs)) where
  go := fun D0 o H i z hi => ⟨z.1, by rw [List.length_map] at hi; exact hi⟩
  stop := fun D0 o H z => ⟨z.1, by rw [List.length_map]; exact Nat.le_refl _⟩
  yld := fun D0 S σ o H i x H' d z E hd y => by
    obtain ⟨rfl, k, v, hk, rfl⟩ := y
    rw [List.getElem?_map, hk] at hd
    cases hd
    exact ⟨Le.refl _, Val.of (rp_key k)⟩
  xe := fun D0 D0' o H H' z l _ _ => ⟨l _ _ _ z.2 z.1, z.2⟩
  fr := fun D0 o H o' H' _ z f _ => f _ _ z.2 z.1
theorem wk_T {a : Addr} {od : Obj} {kvs : List (List Key × V)} : Wk (Itkt a od kvs) (kvs.map fun p => PyData.tuple (p.1.map keyD)) True (zD a od (.dT kvs)) where
  go := fun D0 o H i z hi => ⟨z.1, by rw [List.length_map] at hi; exact hi⟩
  stop := fun D0 o H z => ⟨z.1, by rw [List.length_map]; exact Nat.le_refl _⟩
  yld := fun D0 S σ o H i x H' d z E hd y => by
    obtain ⟨rfl, k, v, q, hk, rfl, hq⟩ := y
    rw [List.getElem?_map, hk] at hd
    cases hd
    have hc : co H' q = some (.tup (k.map kV)) := co_of hq
    have hv : vw D0 o (co H') q = some (.tup (k.map kV)) := by
      refine vw_at ?_ ?_ hc
      · cases z : D0 q with
        | false => rfl
        | true => obtain ⟨u, h1, h2⟩ := E.dead q z; rw [hc] at h1; cases h1; cases h2
      · cases z : o q with
        | none => rfl
        | some p => obtain ⟨_, u, h1, h2⟩ := E.live q p z; rw [hc] at h1; cases h1; cases h2
    exact ⟨Le.refl _, Val.of (.tup hv (rp_keys k))⟩
  xe := fun D0 D0' o H H' z l _ _ => ⟨l _ _ _ z.2 z.1, z.2⟩
  fr := fun D0 o H o' H' _ z f _ => f _ _ z.2 z.1
def keysD (es : Es) : List PyData := (dE es).map (·.1)
theorem PS.or {st : Stmt} {t t' : TS} (h : PS X st t) (h' : PS X st t') : PS X st (fun D σ H => t D σ H ∨ t' D σ H) := ⟨fun pins s σ H D I q => q.elim (h.run pins s σ H D I) (h'.run pins s σ H D I)⟩
theorem PE.or {e : Expr} {t t' : TE} (h : PE X e t) (h' : PE X e t') : PE X e (fun σ H Q => t σ H Q ∨ t' σ H Q) := ⟨fun pins s σ H Q I q => q.elim (h.run pins s σ H Q I) (h'.run pins s σ H Q I)⟩
theorem at_frz {D0 : Addr → Bool} {S : Slots} {σ : St} {H : Hp} {o : Ow} (E : Env D0 S σ H o) {a : Addr} {od : Obj} {u : HO} (h : H a = some (.frz od u)) : o a = none := by
  cases q : o a with
  | none => rfl
  | some p => have := E.nf a p _ q h; cases this
theorem Env.unlock {D0 : Addr → Bool} {S : Slots} {σ : St} {H : Hp} {o : Ow} (E : Env D0 S σ H o) {a : Addr} {od : Obj} {u : HO} (h : H a = some (.frz od u)) (ho : o a = none) (hd : isDct u = true) (hc : core u = u) : Env D0 S σ (upd H a u) o :=
  E.reco (co_unlock h hd hc) fun b p e => upd_ne fun z => by rw [z, ho] at e; cases e
theorem Env.lock {D0 : Addr → Bool} {S : Slots} {σ : St} {H : Hp} {o : Ow} (E : Env D0 S σ H o) {a : Addr} {od : Obj} {u : HO} (h : H a = some u) (ho : o a = none) (hd : isDct u = true) (hc : core u = u) : Env D0 S σ (upd H a (.frz od u)) o :=
  E.reco (co_lock h hd hc) fun b p e => upd_ne fun z => by rw [z, ho] at e; cases e
theorem Fr.unlock {H H' : Hp} {o o' : Ow} {a : Addr} {od : Obj} {u : HO} (h : H a = some u) (ho : o a = none) (f : Fr o (upd H a (.frz od u)) o' H') : H' a = some (.frz od u) ∧ o' a = none ∧ Fr o H o' (upd H' a u) := by
  obtain ⟨h1, h2⟩ := f a _ ho upd_same
  refine ⟨h1, h2, fun b w n e => ?_⟩
  by_cases z : b = a
  · subst z
    rw [h] at e
    cases e
    exact ⟨upd_same, h2⟩
  · obtain ⟨h3, h4⟩ := f b w n (by rw [upd_ne z]; exact e)
    exact ⟨by rw [upd_ne z]; exact h3, h4⟩
theorem vw_no {D0 : Addr → Bool} {o : Ow} {C : Hp} {a : Addr} {u : HO} (h : vw D0 o C a = some u) : D0 a = false ∧ o a = none := by
  unfold vw at h
  split at h
  · cases h
  · rename_i hn
    constructor
    · cases q : D0 a with
      | false => rfl
      | true => exact absurd (by rw [q, Bool.true_or]) hn
    · cases q : o a with
      | none => rfl
      | some p => exact absurd (by rw [q]; simp) hn
theorem keysD_K {G : Hp} {kvs : List (Key × V)} {es' : Es} (r : RpK G kvs es') : keysD ((.none, .none) :: es') = kvs.map fun p => keyD p.1 := r.fst
theorem keysD_T {G : Hp} {kvs : List (List Key × V)} {es : Es} (r : RpT G kvs es) : keysD es = kvs.map fun p => PyData.tuple (p.1.map keyD) := by
  unfold keysD
  rw [r.dE.1]
  exact r.fst
def wForD (i : Nat) (wg : WTg) (wb : WS) : WS := fun S P => match fzS i S with
  | some (.dict es, S1) => forL wg wb True { P with ex := noX } (keysD es) S1
  | _ => False
theorem ss_forD (i : Nat) {tg : Expr} {x : Str} {p : Pos} {body : List Stmt} {L : List Nat} {wg : WTg} {wb : WS} (a : At X W k) (hg : SG X tg L wg) (hb : SSs X W body wb)
    (hN : X.N[i]? = some x := by rfl) (hv : Vis X.env.scope x := by first | exact Or.inl rfl | exact Or.inr (Or.inl rfl) | exact Or.inr (Or.inr rfl)) (hd : (x == ("__debug__" : Str)) = false := by decide) (hcd : (x == ("__classdict__" : Str)) = false := by decide)
    (hs : ∀ y, foldedSetIterable (.Name x p) X.env y = pure y := by intro _; rfl) : SS X W (.For tg (.Name x p) body [] pos) (wForD i wg wb) := by
  obtain ⟨gg, pg, sg⟩ := hg.ex
  obtain ⟨tb, pb, sb⟩ := hb.ex
  have h0 := ps_for (pos := pos) a.po a.calm (pi_keys (tg := tg) (pe_var hN hv hd hcd)) pg pb hs
  refine ⟨_, PS.or h0 (ps_lock h0), ?_⟩
  -- the loop, the dict locked
  have core_ : ∀ {D0 : Addr → Bool} {S : Slots} {σ : St} {H : Hp} {o : Ow} {P : En} {D : Ends} {es : Es} {ad : Addr} {od : Obj} {u : HO}, Env D0 S σ H o → σ[i]? = some (some (.ref ad)) → H ad = some (.frz od u) → o ad = none → DOk (vw D0 o (co H)) u es → forL wg wb True P (keysD es) S → Goes W D0 o H P D →
      tFor (iKeys (tVar i)) gg tb D σ H := by
    intro D0 S σ H o P D es ad od u E hσ hL ho dk hf g
    refine ⟨.ref ad, hσ, ad, od, rfl, ?_⟩
    rcases dk with ⟨kvs, es', rfl, rfl, r⟩ | ⟨kvs, rfl, r⟩
    · rw [keysD_K r] at hf
      exact .inl ⟨kvs, hL, for_core sg sb wk_K trivial ⟨hL, ho⟩ E hf g⟩
    · rw [keysD_T r] at hf
      exact .inr ⟨kvs, hL, for_core sg sb wk_T trivial ⟨hL, ho⟩ E hf g⟩
  intro D0 S0 σ H o0 P D E0 hw g0
  unfold wForD at hw
  split at hw
  · rename_i es S hz
    obtain ⟨o, v, hσ, E, f0, r, hs1⟩ := E0.fzS hz
    have g := g0.on f0
    obtain ⟨ad, u, rfl, hvw, dk⟩ := r.dok
    have hc := dk.dct
    obtain ⟨hD, ho⟩ := vw_no hvw
    have g' : Goes W D0 o H { P with ex := noX } D := ⟨g.nx, g.bk, g.ct, g.rt, fun _ _ _ _ _ _ _ h => h.elim⟩
    rcases co_dct (vw_le _ _ hvw) hc.1 with hraw | ⟨od, hraw⟩
    · right
      refine ⟨ad, u, hraw, hc.2.2.2.2, fun od => ?_⟩
      refine core_ (E.lock hraw ho hc.1 hc.2.1) hσ upd_same ho (by rw [co_lock hraw hc.1 hc.2.1]; exact dk) hw ?_
      refine ⟨fun S' σ' H' o' h E' f => ?_, fun S' σ' H' o' h E' f => ?_, fun S' σ' H' o' h E' f => ?_, fun d c S' v σ' H' o' h E' f V => ?_, fun _ _ _ _ _ _ _ h => h.elim⟩
      · obtain ⟨h1, h2, h3⟩ := f.unlock hraw ho
        exact ⟨h1, g.nx S' σ' _ o' h (E'.unlock h1 h2 hc.1 hc.2.1) h3⟩
      · obtain ⟨h1, h2, h3⟩ := f.unlock hraw ho
        exact ⟨h1, g.bk S' σ' _ o' h (E'.unlock h1 h2 hc.1 hc.2.1) h3⟩
      · obtain ⟨h1, h2, h3⟩ := f.unlock hraw ho
        exact ⟨h1, g.ct S' σ' _ o' h (E'.unlock h1 h2 hc.1 hc.2.1) h3⟩
      · obtain ⟨h1, h2, h3⟩ := f.unlock hraw ho
        exact ⟨h1, g.rt d c S' v σ' _ o' h (E'.unlock h1 h2 hc.1 hc.2.1) h3 (V.reco (co_unlock h1 hc.1 hc.2.1))⟩
    · left
      exact core_ E hσ hraw ho dk hw g'
  · exact hw.elim

/-! ### [.. for k in d]: d is no more the frame's own -/
def wLcD (i : Nat) (wg : WTg) (wt : WTx) (we : WEx) (vs : List Nat) : WLs := fun S A B => match S[i]? with
  | some (.im (.dict es)) => (vs.all fun j => notRng S[j]?) = true ∧ lcL wg wt we True (wipeS S vs) (keysD es) [] True fun acc ca => A acc ca S
  | _ => False
theorem snd_lcD (i : Nat) {mg : Str → Option Value} {L vs : List Nat} {wg : WTg} {wt : WTx} {we : WEx} (hL : ∀ j ∈ L, j ∈ vs) : SndO W (fun σ H Q => tLc (iKeys (tVar i)) (gW L wg) (tTW (WN mg) wt) (tW (WN mg) we) vs σ H Q ∨ tLockE (tLc (iKeys (tVar i)) (gW L wg) (tTW (WN mg) wt) (tW (WN mg) we) vs) σ H Q) (wLcD i wg wt we vs) := by
  intro D0 S σ H o A B Q E hw kk kx
  unfold wLcD at hw
  split at hw
  · rename_i es hi
    obtain ⟨hnr, hw⟩ := hw
    obtain ⟨v, hσ, r⟩ := E.sl i _ hi
    obtain ⟨ad, u, rfl, hvw, dk⟩ := r.dok
    have hc := dk.dct
    obtain ⟨hD, ho⟩ := vw_no hvw
    have core_ : ∀ {H : Hp} {od : Obj} {Q : VK}, Env D0 S σ H o → H ad = some (.frz od u) → DOk (vw D0 o (co H)) u es →
        (∀ (acc : List PyData) (ca : Prop) (us : List V) (D : Addr) (H2 : Hp), A acc ca S → Env D0 S σ H2 o → XE o H H2 → H2 D = none → Vals' D0 o H2 us acc ca → Q (.ref D) (upd H2 D (.lst us))) →
        tLc (iKeys (tVar i)) (gW L wg) (tTW (WN mg) wt) (tW (WN mg) we) vs σ H Q := by
      intro H od Q E hL' dk kk
      refine ⟨.ref ad, hσ, ad, od, rfl, ?_⟩
      rcases dk with ⟨kvs, es', rfl, rfl, r⟩ | ⟨kvs, rfl, r⟩
      · rw [keysD_K r] at hw
        exact .inl ⟨kvs, hL', lc_core hL wk_K hnr ⟨hL', ho⟩ E hw kk⟩
      · rw [keysD_T r] at hw
        exact .inr ⟨kvs, hL', lc_core hL wk_T hnr ⟨hL', ho⟩ E hw kk⟩
    rcases co_dct (vw_le _ _ hvw) hc.1 with hraw | ⟨od, hraw⟩
    · right
      refine ⟨ad, u, hraw, hc.2.2.2.2, fun od => ?_⟩
      refine core_ (E.lock hraw ho hc.1 hc.2.1) upd_same (by rw [co_lock hraw hc.1 hc.2.1]; exact dk) fun acc ca us D H2 hA E2 x2 hn V => ?_
      have h2 : H2 ad = some (.frz od u) := x2 ad _ (by rw [ho]; rfl) upd_same
      have ne : D ≠ ad := fun z => by rw [z, h2] at hn; cases hn
      refine ⟨by rw [upd_ne (Ne.symm ne)]; exact h2, ?_⟩
      have e : upd (upd H2 D (.lst us)) ad u = upd (upd H2 ad u) D (.lst us) := by
        funext c
        unfold upd
        by_cases z : c = ad
        · subst z; rw [if_pos rfl, if_neg (Ne.symm ne), if_pos rfl]
        · rw [if_neg z, if_neg z]
      rw [e]
      have hco := co_unlock h2 hc.1 hc.2.1
      refine kk acc ca S us D _ hA (E2.unlock h2 ho hc.1 hc.2.1) (fun b w m eb => ?_) (by rw [upd_ne ne]; exact hn) (by unfold Vals' at V ⊢; rw [hco]; exact V)
      by_cases z : b = ad
      · subst z
        rw [hraw] at eb
        cases eb
        exact upd_same
      · rw [upd_ne z]
        exact x2 b w m (by rw [upd_ne z]; exact eb)
    · left
      exact core_ E hraw dk fun acc ca us D H2 hA E2 x2 hn V => kk acc ca S us D H2 hA E2 x2 hn V
  · exact hw.elim
theorem so_lcD (i : Nat) {elt tg : Expr} {x : Str} {p : Pos} {ifs : List Expr} {scope : Scope} {own : List (Str × Nat)} {L : List Nat} {wg : WTg} {wt : WTx} {we : WEx} (a : At X W k) (ok : blkC X.N X.env.scope scope own = true)
    (hg : ∀ (s : Shared) (H : Hp) (C : Addr) (cl : List (Str × Addr)) (fp : List Addr), SG (X.blk s H scope (compEnvC scope cl C X.env) fp) tg L wg)
    (ht : ∀ (s : Shared) (H : Hp) (C : Addr) (cl : List (Str × Addr)) (fp : List Addr), At (X.blk s H scope (compEnvC scope cl C X.env) fp) (WN X.mg) k → STs (X.blk s H scope (compEnvC scope cl C X.env) fp) (WN X.mg) ifs wt)
    (he : ∀ (s : Shared) (H : Hp) (C : Addr) (cl : List (Str × Addr)) (fp : List Addr), At (X.blk s H scope (compEnvC scope cl C X.env) fp) (WN X.mg) k → SE (X.blk s H scope (compEnvC scope cl C X.env) fp) (WN X.mg) elt we)
    (hL : ∀ j ∈ L, j ∈ own.map (·.2)) (hN : X.N[i]? = some x := by rfl) (hv : Vis X.env.scope x := by first | exact Or.inl rfl | exact Or.inr (Or.inl rfl) | exact Or.inr (Or.inr rfl)) (hd : (x == ("__debug__" : Str)) = false := by decide) (hcd : (x == ("__classdict__" : Str)) = false := by decide)
    (hs : ∀ y, foldedSetIterable (.Name x p) X.env y = pure y := by intro _; rfl) : SO X W (.ListComp elt [⟨tg, .Name x p, ifs, 0⟩] scope pos) (wLcD i wg wt we (own.map (·.2))) := by
  have h0 := pe_lc (pos := pos) a.calm a.nd (pi_keys (tg := tg) (pe_var hN hv hd hcd)) (blkOk_by ok) (fun s H C cl fp => (hg s H C cl fp).pg) (fun s H C cl fp => (ht s H C cl fp (a.blk ..)).pt) (fun s H C cl fp => (he s H C cl fp (a.blk ..)).pe) hs
  exact ⟨_, PE.or h0 (pe_lock h0), snd_lcD i hL⟩
theorem ss_setLcOD (l i : Nat) {y : Str} {py : Pos} {elt tg : Expr} {x : Str} {p : Pos} {ifs : List Expr} {scope : Scope} {own : List (Str × Nat)} {spos : Pos} {L : List Nat} {wg : WTg} {wt : WTx} {we : WEx} (a : At X W k) (ok : blkC X.N X.env.scope scope own = true)
    (hg : ∀ (s : Shared) (H : Hp) (C : Addr) (cl : List (Str × Addr)) (fp : List Addr), SG (X.blk s H scope (compEnvC scope cl C X.env) fp) tg L wg)
    (ht : ∀ (s : Shared) (H : Hp) (C : Addr) (cl : List (Str × Addr)) (fp : List Addr), At (X.blk s H scope (compEnvC scope cl C X.env) fp) (WN X.mg) k → STs (X.blk s H scope (compEnvC scope cl C X.env) fp) (WN X.mg) ifs wt)
    (he : ∀ (s : Shared) (H : Hp) (C : Addr) (cl : List (Str × Addr)) (fp : List Addr), At (X.blk s H scope (compEnvC scope cl C X.env) fp) (WN X.mg) k → SE (X.blk s H scope (compEnvC scope cl C X.env) fp) (WN X.mg) elt we)
    (hL : ∀ j ∈ L, j ∈ own.map (·.2)) (hy : X.N[l]? = some y := by rfl) (hyl : X.env.scope.names.lookup y = some .local := by rfl) (hk : X.env.scope.kind = .function := by rfl) (hln : (py.line == pos.line) = true := by rfl) (ha : (scope.names.any fun (n, k) => n == y && (k == .local || k == .cell)) = false := by decide)
    (hN : X.N[i]? = some x := by rfl) (hv : Vis X.env.scope x := by first | exact Or.inl rfl | exact Or.inr (Or.inl rfl) | exact Or.inr (Or.inr rfl)) (hd : (x == ("__debug__" : Str)) = false := by decide) (hcd : (x == ("__classdict__" : Str)) = false := by decide)
    (hs : ∀ y, foldedSetIterable (.Name x p) X.env y = pure y := by intro _; rfl) : SS X W (.Assign [.Name y py] (.ListComp elt [⟨tg, .Name x p, ifs, 0⟩] scope pos) spos) (wOwn l (wLcD i wg wt we (own.map (·.2)))) := by
  have h0 := ps_setLc (pos := pos) (spos := spos) a.calm a.nd hy hyl (sw_true hk hyl hln ha) (pi_keys (tg := tg) (pe_var hN hv hd hcd)) (blkOk_by ok) (fun s H C cl fp => (hg s H C cl fp).pg) (fun s H C cl fp => (ht s H C cl fp (a.blk ..)).pt) (fun s H C cl fp => (he s H C cl fp (a.blk ..)).pe) hs
  refine ⟨_, PS.or h0 (ps_lock h0), ?_⟩
  intro D0 S σ H o P D E hw g
  refine snd_lcD (mg := X.mg) i hL D0 S σ H o _ P.ex (fun x H1 => gName l x σ H1 D.nx) E hw (fun ds c S1 vs q H1 h1 E1 x1 hq V1 => ?_) g.xw
  exact g.nx _ _ _ _ h1.2 (E1.own l hq (V1.clean E1 h1.1)) (x1.fr.trans (fr_own (D0 := D0) (S := S1) (σ := σ) hq))
theorem ss_setLcD (l i : Nat) {y : Str} {py : Pos} {elt tg : Expr} {x : Str} {p : Pos} {ifs : List Expr} {scope : Scope} {own : List (Str × Nat)} {spos : Pos} {L : List Nat} {wg : WTg} {wt : WTx} {we : WEx} (a : At X W k) (ok : blkC X.N X.env.scope scope own = true)
    (hg : ∀ (s : Shared) (H : Hp) (C : Addr) (cl : List (Str × Addr)) (fp : List Addr), SG (X.blk s H scope (compEnvC scope cl C X.env) fp) tg L wg)
    (ht : ∀ (s : Shared) (H : Hp) (C : Addr) (cl : List (Str × Addr)) (fp : List Addr), At (X.blk s H scope (compEnvC scope cl C X.env) fp) (WN X.mg) k → STs (X.blk s H scope (compEnvC scope cl C X.env) fp) (WN X.mg) ifs wt)
    (he : ∀ (s : Shared) (H : Hp) (C : Addr) (cl : List (Str × Addr)) (fp : List Addr), At (X.blk s H scope (compEnvC scope cl C X.env) fp) (WN X.mg) k → SE (X.blk s H scope (compEnvC scope cl C X.env) fp) (WN X.mg) elt we)
    (hL : ∀ j ∈ L, j ∈ own.map (·.2)) (hy : X.N[l]? = some y := by rfl) (hyl : X.env.scope.names.lookup y = some .local := by rfl) (hk : X.env.scope.kind = .function := by rfl) (hln : (py.line == pos.line) = true := by rfl) (ha : (scope.names.any fun (n, k) => n == y && (k == .local || k == .cell)) = false := by decide)
    (hN : X.N[i]? = some x := by rfl) (hv : Vis X.env.scope x := by first | exact Or.inl rfl | exact Or.inr (Or.inl rfl) | exact Or.inr (Or.inr rfl)) (hd : (x == ("__debug__" : Str)) = false := by decide) (hcd : (x == ("__classdict__" : Str)) = false := by decide)
    (hs : ∀ y, foldedSetIterable (.Name x p) X.env y = pure y := by intro _; rfl) : SS X W (.Assign [.Name y py] (.ListComp elt [⟨tg, .Name x p, ifs, 0⟩] scope pos) spos) (wSet l (wO (wLcD i wg wt we (own.map (·.2))))) := by
  have h0 := ps_setLc (pos := pos) (spos := spos) a.calm a.nd hy hyl (sw_true hk hyl hln ha) (pi_keys (tg := tg) (pe_var hN hv hd hcd)) (blkOk_by ok) (fun s H C cl fp => (hg s H C cl fp).pg) (fun s H C cl fp => (ht s H C cl fp (a.blk ..)).pt) (fun s H C cl fp => (he s H C cl fp (a.blk ..)).pe) hs
  refine ⟨_, PS.or h0 (ps_lock h0), ?_⟩
  intro D0 S σ H o P D E hw g
  refine snd_o (snd_lcD (mg := X.mg) i hL) D0 S σ H o _ P.ex (fun x H1 => gName l x σ H1 D.nx) E hw (fun d c S1 v H1 h1 E1 x1 V1 => ?_) g.xw
  exact g.nx _ _ _ _ h1.2 (E1.put l ((V1.flat E1).2 h1.1)) x1.fr
/-- slot i's dict is given up, then the statement -/
def wFz (i : Nat) (w : WS) : WS := fun S P => match fzS i S with
  | some (_, S1) => w S1 P
  | none => False
theorem ss_fz (i : Nat) {st : Stmt} {w : WS} (h : SS X W st w) : SS X W st (wFz i w) := by
  obtain ⟨t, p, s⟩ := h.ex
  refine ⟨t, p, ?_⟩
  intro D0 S σ H o P D E hw g
  unfold wFz at hw
  split at hw
  · rename_i d S1 hz
    obtain ⟨o', v, _, E', f, _, _⟩ := E.fzS hz
    exact s D0 S1 σ H o' P D E' hw (g.on f)
  · exact hw.elim

/-! ### list(d), len(d), min(xs, default=x), xs.pop() -/
def gListD : RDL := fun ds _ K => match ds with
  | [.dict es] => K (keysD es) True
  | _ => False
theorem isKeys_rp {D0 : Addr → Bool} {S : Slots} {σ : St} {H : Hp} {o : Ow} (E : Env D0 S σ H o) : ∀ {kvs : List (List Key × V)} {bs : List Addr}, IsKeys H kvs bs → RpAll (vw D0 o (co H)) (bs.map V.ref) (kvs.map fun p => PyData.tuple (p.1.map keyD))
  | _, _, .nil => .nil
  | _, _, .cons (a := p) (b := q) a b => by
    have hc : co H q = some (.tup (p.1.map kV)) := co_of a
    have hv : vw D0 o (co H) q = some (.tup (p.1.map kV)) := by
      refine vw_at ?_ ?_ hc
      · cases z : D0 q with
        | false => rfl
        | true => obtain ⟨u, h1, h2⟩ := E.dead q z; rw [hc] at h1; cases h1; cases h2
      · cases z : o q with
        | none => rfl
        | some p => obtain ⟨_, u, h1, h2⟩ := E.live q p z; rw [hc] at h1; cases h1; cases h2
    exact .cons (.tup hv (rp_keys _)) (isKeys_rp E b)
theorem rp_keysK {G : Hp} : ∀ (kvs : List (Key × V)), RpAll G (kvs.map fun p => kV p.1) (kvs.map fun p => keyD p.1)
  | [] => .nil
  | p :: r => .cons (rp_key p.1) (rp_keysK r)
theorem fo_listD (a : At X W k) : FnO X (.type "list") gListD := by
  refine ⟨_, CallR.or (call_listD a.calm) (call_list_dT a.calm), ?_⟩
  intro D0 S σ o H vs ds c K Q E V hg kk
  unfold gListD at hg
  split at hg
  · obtain ⟨v, rfl, U⟩ := vals1 V
    obtain ⟨ad, u, rfl, hr, hd, d1, d2⟩ := U.dok
    rcases d1 with ⟨kvs, es', rfl, rfl, r⟩ | ⟨kvs, rfl, r⟩
    · rw [keysD_K r] at hg
      exact .inl ⟨ad, kvs, rfl, co_dK hr, fun q hq => kk _ _ _ q H hg (Le.refl H) hq ⟨rp_keysK kvs, fun _ => rp_keysK kvs⟩⟩
    · rw [keysD_T r] at hg
      refine .inr ⟨ad, kvs, rfl, co_dT hr, fun q bs hq ik => ?_⟩
      have rk := isKeys_rp E ik
      exact kk _ _ _ q H hg (Le.refl H) hq ⟨rk.mono vw_le_vt, fun _ => rk⟩
  · exact hg.elim
/-- min(xs, default=z), the items ints -/
def rMnD : List V → List V → Hp → VK → Prop := fun vs zs H Q => ∃ (a : Addr) (ns : List Int) (d : V), vs = [V.ref a] ∧ zs = [d] ∧ H a = some (.lst (ns.map V.int)) ∧ (ns = [] → Q d H) ∧ ∀ n r, ns = n :: r → Q (.int (r.foldl min n)) H
theorem cr_mnD (a : At X W k) : CallRK X (.builtin "min") [Str.ofString "default"] rMnD := by
  intro pins s σ H xs zs us ws Q I r rz h
  obtain ⟨p, ns, d, rfl, rfl, hp, q0, q1⟩ := h
  rw [Vals.ref1 r]
  cases rz with
  | cons rd rz =>
    cases rz
    rename_i w
    obtain ⟨its, rv, hl, _⟩ := I.list (SqL.at hp)
    obtain ⟨as, rr⟩ := reads_ints (s := s.heap) rv.ints
    refine PySem.W.min_list_default (I.ok.hd a.calm) hl.isList (xs := ns.map PyData.int) (d := w) rr ?_ ?_ (fun e h' tk hk => ?_) fun y ys i v h' tk bs e hi r hk => ?_
    · cases ns with
      | nil => exact ⟨by simp, by simp⟩
      | cons n r => exact alike_ints n r
    · cases ns with
      | nil => have := a.u64; show X.A.units + 1 + 0 < cLine; omega
      | cons n r => exact hu_mm a.u64
    · exact ⟨d, H, I.kept hk, rd, q0 (List.map_eq_nil_iff.mp e)⟩
    · cases ns with
      | nil => cases e
      | cons n ns =>
        rw [List.map_cons] at e
        cases e
        rw [PySem.W.minD_ints] at r
        cases r
        exact ⟨.int _, H, I.kept hk, ⟨_, rfl⟩, q1 n ns rfl⟩
def wMinD (we wf : WEx) : WEx := fun S A B => we S (fun d _ S1 => match d with
  | .list xs => wf S1 (fun z cz S2 => ∃ ns, ints? xs = some ns ∧ match ns with
    | [] => A z cz S2
    | n :: r => A (.int (r.foldl min n)) True S2) B
  | _ => False) B
theorem se_minD {e f : Expr} {p kp : Pos} {we wf : WEx} (a : At X W k) (he : SE X W e we) (hf : SE X W f wf) (hm : X.mg "min" = none) (hv : bootBuiltins "min" = some (.builtin "min")) (hg : Gl X "min" := by rfl)
    (hst : starEach [e] X.env = (false, eval e X.env) :: starEach [] X.env := by rfl)
    (hb : backTo pos (starEach (e :: []) X.env) = (false, eval e X.env) :: backTo pos (starEach [] X.env) := by rfl) (hpl : (backTo pos (starEach (e :: []) X.env)).any (·.1) = false := by rfl)
    (hall : (backToKw pos (keywordEach [⟨some "default", f, kp⟩] X.env)).all (·.1.isSome) = true := by rfl) (hnone : (backToKw pos (keywordEach [⟨some "default", f, kp⟩] X.env)).any (·.1.isNone) = false := by rfl) (hks : (backToKw pos (keywordEach [⟨some "default", f, kp⟩] X.env)).filterMap (·.1) = [Str.ofString "default"] := by rfl) :
    SE X W (.Call (.Name "min" p) [e] [⟨some "default", f, kp⟩] pos) (wMinD we wf) := by
  obtain ⟨te, pe, se⟩ := he.ex
  obtain ⟨tf, pf, sf⟩ := hf.ex
  refine ⟨_, pe_callBK (cr_mnD a) hg hm hv (pa_cons pe pa_nil hst) (pk_cons pf pk_nil) (by decide) (by decide) hb hpl hall hnone hks, ?_⟩
  intro D0 S σ H o A B Q E hw kk kx
  refine se D0 S σ H o _ B _ E hw (fun d c S1 x H1 h1 E1 x1 V1 => ?_) kx
  split at h1
  · refine sf D0 S1 σ H1 o _ B _ E1 h1 (fun z cz S2 y H2 h2 E2 x2 V2 => ?_) (kx.on x1)
    obtain ⟨ns, hi, h2⟩ := h2
    obtain ⟨ad, vs, rfl, e1, r1, _⟩ := (V1.mono x2).items E2
    rw [ints?_of hi] at r1
    rw [r1.ints] at e1
    refine ⟨ad, ns, y, rfl, rfl, e1, fun e0 => ?_, fun n r e0 => ?_⟩
    · subst e0
      exact kk _ _ S2 y H2 h2 E2 (x1.trans x2) V2
    · subst e0
      exact kk _ _ S2 _ H2 h2 E2 (x1.trans x2) (Val.of (.int _))
  · exact h1.elim
end
end Pu

namespace Pu
open PySem L2

/-! ### objects of an own class -/
abbrev Fs := List (Str × PyData)
theorem core_ins {u : HO} {C dx : Addr} {ws : List (Str × V)} (h : core u = .ins C dx ws) : u = .ins C dx ws := by
  cases u <;> simp [core] at h ⊢
  · exact h
  · rename_i o w
    cases w <;> simp [isDct] at h
theorem core_own {u : HO} {a : Addr} (h : core u = .own a) : u = .own a := by
  cases u <;> simp [core] at h ⊢
  · exact h
  · rename_i o w
    cases w <;> simp [isDct] at h
theorem co_ins {H : Hp} {a C dx : Addr} {ws : List (Str × V)} (h : co H a = some (.ins C dx ws)) : H a = some (.ins C dx ws) := by
  unfold co at h
  cases e : H a with
  | none => rw [e] at h; cases h
  | some u => rw [e] at h; rw [core_ins (Option.some.inj h)]
theorem co_own {H : Hp} {a b : Addr} (h : co H a = some (.own b)) : H a = some (.own b) := by
  unfold co at h
  cases e : H a with
  | none => rw [e] at h; cases h
  | some u => rw [e] at h; rw [core_own (Option.some.inj h)]
theorem RpF.look {G : Hp} : ∀ {ws : List (Str × V)} {fs : Fs}, RpF G ws fs → ∀ f : Str, (ws.lookup f).isSome = (fs.lookup f).isSome ∧ ∀ d, fs.lookup f = some d → ∃ v, ws.lookup f = some v ∧ Rp G v d
  | _, _, .nil, f => ⟨rfl, fun d h => by cases h⟩
  | _, _, .cons (x := x) (v := v) (d := d) (fs := ws) (es := fs) a b, f => by
    have q := b.look f
    rw [List.lookup_cons, List.lookup_cons]
    cases e : f == x with
    | true => exact ⟨rfl, fun d h => by cases h; exact ⟨v, rfl, a⟩⟩
    | false => exact q
def putFd (f : Str) (d : PyData) : Fs → Fs
  | [] => [(f, d)]
  | (g, x) :: r => if g = f then (g, d) :: r else (g, x) :: putFd f d r
theorem RpF.put {G : Hp} {f : Str} {v : V} {d : PyData} (r : Rp G v d) : ∀ {ws : List (Str × V)} {fs : Fs}, RpF G ws fs → RpF G (putF f v ws) (putFd f d fs)
  | _, _, .nil => .cons r .nil
  | _, _, .cons (x := x) a b => by
    unfold putF putFd
    by_cases e : x = f
    · rw [if_pos e, if_pos e]; exact .cons r b
    · rw [if_neg e, if_neg e]; exact .cons a (b.put r)
theorem RpF.length {G : Hp} : ∀ {ws : List (Str × V)} {fs : Fs}, RpF G ws fs → ws.length = fs.length
  | _, _, .nil => rfl
  | _, _, .cons _ b => by rw [List.length_cons, List.length_cons, b.length]
/-- the object at a, its attributes at dx -/
structure ObAt (H : Hp) (a dx C : Addr) (ws : List (Str × V)) : Prop where
  ne : a ≠ dx
  i : H a = some (.ins C dx ws)
  d : H dx = some (.own a)
theorem Env.obAt {D0 : Addr → Bool} {S : Slots} {σ : St} {H : Hp} {o : Ow} {i : Nat} {a dx C : Addr} {fs : Fs} (E : Env D0 S σ H o) (h : S[i]? = some (.ob a dx C fs)) :
    ∃ ws, σ[i]? = some (some (.ref a)) ∧ o a = some (i, true) ∧ o dx = some (i, true) ∧ ObAt H a dx C ws ∧ RpF (vw D0 o (co H)) ws fs := by
  obtain ⟨ws, h1, h2, h3, h4, h5, h6, h7⟩ := E.sl i _ h
  exact ⟨ws, h1, h2, h3, ⟨h4, co_ins h5, co_own h6⟩, h7⟩
/-- the object has changed, and nothing but it -/
theorem Env.obj {D0 : Addr → Bool} {S : Slots} {σ : St} {H H' : Hp} {o : Ow} {i : Nat} {a dx C : Addr} {fs fs' : Fs} {ws' : List (Str × V)} (E : Env D0 S σ H o) (hi : S[i]? = some (.ob a dx C fs)) (b : But a dx H H') (r : ObAt H' a dx C ws') (rf : RpF (vw D0 o (co H')) ws' fs') :
    Env D0 (S.set i (.ob a dx C fs')) σ H' o ∧ XE o H H' := by
  obtain ⟨ws, hσ, ha, hc, ob0, _⟩ := E.obAt hi
  have hil := E.lt hi
  have x : XE o H H' := fun d u m e => b d u (fun z => by rw [z, ha] at m; cases m) (fun z => by rw [z, hc] at m; cases m) e
  have cx : ∀ d u, d ≠ a → d ≠ dx → co H d = some u → co H' d = some u := fun d u n1 n2 h => by
    unfold co at h ⊢
    cases z : H d with
    | none => rw [z] at h; cases h
    | some y => rw [b d y n1 n2 z]; rw [z] at h; exact h
  have ca : co H' a = some (.ins C dx ws') := co_of r.i
  have cd : co H' dx = some (.own a) := co_of r.d
  refine ⟨⟨by rw [List.length_set]; exact E.len, fun d p e => ?_, fun d e => ?_, fun j s e => ?_, fun d p u e h1 => ?_⟩, x⟩
  · obtain ⟨h1, u, h2, h3⟩ := E.live d p e
    refine ⟨h1, ?_⟩
    by_cases n1 : d = a
    · subst n1; exact ⟨_, ca, rfl⟩
    · by_cases n2 : d = dx
      · subst n2; exact ⟨_, cd, rfl⟩
      · exact ⟨u, cx _ _ n1 n2 h2, h3⟩
  · obtain ⟨u, h2, h3⟩ := E.dead d e
    have n1 : d ≠ a := fun z => by rw [z, (E.live a _ ha).1] at e; cases e
    have n2 : d ≠ dx := fun z => by rw [z, (E.live dx _ hc).1] at e; cases e
    exact ⟨u, cx _ _ n1 n2 h2, h3⟩
  · by_cases z : i = j
    · subst z
      rw [List.getElem?_set_self hil] at e
      cases e
      exact ⟨ws', hσ, ha, hc, r.ne, ca, cd, rf⟩
    · rw [List.getElem?_set_ne z] at e
      have ne : ∀ {d : Addr} {b : Bool}, o d = some (j, b) → d ≠ a ∧ d ≠ dx := fun {d b} e => ⟨fun q => (by rw [q, ha] at e; cases e; exact z rfl), fun q => (by rw [q, hc] at e; cases e; exact z rfl)⟩
      exact (E.sl j s e).move x.vw fun d b u h1 h2 => ⟨h1, cx _ _ (ne h1).1 (ne h1).2 h2⟩
  · by_cases n1 : d = a
    · subst n1; rw [r.i] at h1; cases h1; rfl
    · by_cases n2 : d = dx
      · subst n2; rw [r.d] at h1; cases h1; rfl
      · obtain ⟨u', h2, h3⟩ := E.at_ e
        rw [b d u' n1 n2 h2] at h1
        cases h1
        exact h3
/-- the frame gets a new object -/
theorem Env.newOb {D0 : Addr → Bool} {S : Slots} {σ : St} {H : Hp} {o : Ow} {a dx C : Addr} {fs : Fs} {ws : List (Str × V)} (E : Env D0 S σ H o) (i : Nat) (ha : H a = none) (hd : H dx = none) (hne : a ≠ dx) (rf : RpF (vw D0 o (co H)) ws fs) :
    Env D0 (S.set i (.ob a dx C fs)) (σ.set i (some (.ref a))) (upd (upd H dx (.own a)) a (.ins C dx ws)) (orng a dx i o) ∧ Fr o H (orng a dx i o) (upd (upd H dx (.own a)) a (.ins C dx ws)) := by
  have na := E.new ha
  have nd := E.new hd
  have ca : co (upd (upd H dx (.own a)) a (.ins C dx ws)) a = some (.ins C dx ws) := by rw [co_upd, upd_same]; rfl
  have cd : co (upd (upd H dx (.own a)) a (.ins C dx ws)) dx = some (.own a) := by rw [co_upd, upd_ne (Ne.symm hne), co_upd, upd_same]; rfl
  have oe : ∀ {b : Addr}, b ≠ a → b ≠ dx → orng a dx i o b = o b := fun {b} n1 n2 => if_neg (fun z => z.elim n1 n2)
  have ne : ∀ {b : Addr} {q : Nat × Bool}, o b = some q → b ≠ a ∧ b ≠ dx := fun {b q} e => ⟨fun z => (by rw [z, na.2] at e; cases e), fun z => (by rw [z, nd.2] at e; cases e)⟩
  have cx : ∀ b u, co H b = some u → co (upd (upd H dx (.own a)) a (.ins C dx ws)) b = some u := fun b u e => by
    have n1 : b ≠ a := fun z => by rw [z, co_none.mpr ha] at e; cases e
    have n2 : b ≠ dx := fun z => by rw [z, co_none.mpr hd] at e; cases e
    rw [co_upd, upd_ne n1, co_upd, upd_ne n2]
    exact e
  have hv : vw D0 (orng a dx i o) (co (upd (upd H dx (.own a)) a (.ins C dx ws))) = vw D0 o (co H) := by
    funext b
    unfold vw
    by_cases n1 : b = a
    · subst n1
      have e1 : orng b dx i o b = some (i, true) := if_pos (.inl rfl)
      rw [e1, if_pos (by simp)]
      split
      · rfl
      · exact (co_none.mpr ha).symm
    · by_cases n2 : b = dx
      · subst n2
        have e1 : orng a b i o b = some (i, true) := if_pos (.inr rfl)
        rw [e1, if_pos (by simp)]
        split
        · rfl
        · exact (co_none.mpr hd).symm
      · rw [oe n1 n2, co_upd, upd_ne n1, co_upd, upd_ne n2]
  have oa : orng a dx i o a = some (i, true) := if_pos (.inl rfl)
  have od : orng a dx i o dx = some (i, true) := if_pos (.inr rfl)
  refine ⟨⟨by rw [List.length_set, List.length_set]; exact E.len, fun b q e => ?_, fun b e => ?_, fun j s e => ?_, fun b p u e h => ?_⟩, fun b u n e => ?_⟩
  · by_cases n1 : b = a
    · subst n1; exact ⟨na.1, _, ca, rfl⟩
    · by_cases n2 : b = dx
      · subst n2; exact ⟨nd.1, _, cd, rfl⟩
      · rw [oe n1 n2] at e
        obtain ⟨h1, u, h2, h3⟩ := E.live b q e
        exact ⟨h1, u, cx _ _ h2, h3⟩
  · obtain ⟨u, h2, h3⟩ := E.dead b e
    exact ⟨u, cx _ _ h2, h3⟩
  · by_cases z : i = j
    · subst z
      have hi : i < S.length := by
        obtain ⟨h1, _⟩ := List.getElem?_eq_some_iff.mp e
        rw [List.length_set] at h1
        exact h1
      rw [List.getElem?_set_self hi] at e
      cases e
      exact ⟨ws, by rw [List.getElem?_set_self (by rw [E.len]; exact hi)], oa, od, hne, ca, cd, by rw [hv]; exact rf⟩
    · rw [List.getElem?_set_ne z] at e ⊢
      exact (E.sl j s e).move (by rw [hv]; exact Le.refl _) fun b c u h1 h2 => ⟨by rw [oe (ne h1).1 (ne h1).2]; exact h1, cx _ _ h2⟩
  · by_cases n1 : b = a
    · subst n1; rw [upd_same] at h; cases h; rfl
    · by_cases n2 : b = dx
      · subst n2; rw [upd_ne n1, upd_same] at h; cases h; rfl
      · rw [oe n1 n2] at e
        rw [upd_ne n1, upd_ne n2] at h
        exact E.nf b p u e h
  · have n1 : b ≠ a := ne_of_none e ha
    have n2 : b ≠ dx := ne_of_none e hd
    exact ⟨by rw [upd_ne n1, upd_ne n2]; exact e, by rw [oe n1 n2]; exact n⟩

section
variable {X : Cx} {W : WM} {k : Nat} {pos : Pos}
/-! ### self.f, self.f = e -/
def wFldO (C : Addr) (i : Nat) (f : Str) : WEx := fun S A _ => match S[i]? with
  | some (.ob _ _ C' fs) => C' = C ∧ ∃ d, fs.lookup f = some d ∧ A d True S
  | _ => False
theorem se_fldO {C : Addr} (i : Nat) {x f : Str} {p : Pos} (c : Cls X.K C) (n : NoAttr X.K C f) (hN : X.N[i]? = some x := by rfl) (hv : Vis X.env.scope x := by first | exact Or.inl rfl | exact Or.inr (Or.inl rfl) | exact Or.inr (Or.inr rfl))
    (hd : (x == ("__debug__" : Str)) = false := by decide) (hcd : (x == ("__classdict__" : Str)) = false := by decide)
    (hb : attributeBase (.Name x p) f X.env (eval (.Name x p) X.env) = eval (.Name x p) X.env := by rfl) : SE X W (.Attribute (.Name x p) f pos) (wFldO C i f) := by
  refine ⟨_, pe_fld (pe_var hN hv hd hcd) hb, ?_⟩
  intro D0 S σ H o A B Q E hw kk kx
  unfold wFldO at hw
  split at hw
  · rename_i a dx C' fs hs
    obtain ⟨rfl, d, hl, hw⟩ := hw
    obtain ⟨ws, h1, h2, h3, ob, rf⟩ := E.obAt hs
    obtain ⟨v, e, r⟩ := (rf.look f).2 d hl
    exact ⟨.ref a, h1, a, _, dx, ws, v, rfl, ob.i, c, n, e, kk d True S v H hw E (XE.refl o H) (Val.of r)⟩
  · exact hw.elim
def wFldS (C : Addr) (i : Nat) (f : Str) (we : WEx) : WS := fun S P => we S (fun d c S1 => match S1[i]? with
  | some (.ob a dx C' fs) => C' = C ∧ (c ∨ flat d = true) ∧ fs.length < 1000 ∧ P.nx (S1.set i (.ob a dx C' (putFd f d fs)))
  | _ => False) P.ex
theorem ss_fldO {C : Addr} (i : Nat) {x f : Str} {p p' : Pos} {e : Expr} {we : WEx} (c : Cls X.K C) (n : NoAttr X.K C f) (he : SE X W e we) (hN : X.N[i]? = some x := by rfl) (hv : Vis X.env.scope x := by first | exact Or.inl rfl | exact Or.inr (Or.inl rfl) | exact Or.inr (Or.inr rfl))
    (hd : (x == ("__debug__" : Str)) = false := by decide) (hcd : (x == ("__classdict__" : Str)) = false := by decide)
    (hs : swapsWith e (some (.Attribute (.Name x p) f p')) pos.line X.env = pure false := by rfl) : SS X W (.Assign [.Attribute (.Name x p) f p'] e pos) (wFldS C i f we) := by
  obtain ⟨te, pe, se⟩ := he.ex
  refine ⟨_, ps_fld (pe_var hN hv hd hcd) pe hs, ?_⟩
  intro D0 S σ H o P D E hw g
  refine se D0 S σ H o _ P.ex _ E hw (fun d cc S1 v H1 h1 E1 x1 V1 => ?_) g.xw
  split at h1
  · rename_i a dx C' fs hs1
    obtain ⟨rfl, hc, hl, h1⟩ := h1
    obtain ⟨ws, q1, q2, q3, ob, rf⟩ := E1.obAt hs1
    refine ⟨.ref a, q1, a, _, dx, ws, rfl, ob.i, c, n, by rw [rf.length]; exact hl, ?_⟩
    have bt : But a dx H1 (upd H1 a (.ins C' dx (putF f v ws))) := fun b u n1 n2 e => by rw [upd_ne n1]; exact e
    have oa : ObAt (upd H1 a (.ins C' dx (putF f v ws))) a dx C' (putF f v ws) := ⟨ob.ne, upd_same, by rw [upd_ne (Ne.symm ob.ne)]; exact ob.d⟩
    have hvw : vw D0 o (co (upd H1 a (.ins C' dx (putF f v ws)))) = vw D0 o (co H1) := ow_vw q2
    obtain ⟨E2, x2⟩ := E1.obj (fs' := putFd f d fs) hs1 bt oa (by rw [hvw]; exact rf.put ((V1.flat E1).2 hc))
    exact g.nx _ _ _ _ h1 E2 (x1.trans x2).fr
  · exact h1.elim

/-! ### defs whose first parameter is an object -/
abbrev SpO := Fs → List PyData → (PyData → Fs → Prop) → (XC → Fs → Prop) → Prop
def spOfO (C : Addr) (mg : Str → Option Value) (n : Nat) (sp : SpO) : Sp := fun vs H Q E => ∃ (a dx : Addr) (ws : List (Str × V)) (fs : Fs) (us : List V) (ds : List PyData) (D0 : Addr → Bool) (A : PyData → Fs → Prop) (B : XC → Fs → Prop), vs = .ref a :: us ∧ ObAt H a dx C ws ∧ ds.length = n ∧
  D0 a = false ∧ D0 dx = false ∧ (∀ b, D0 b = true → ∃ u, co H b = some u ∧ isTup u = false) ∧ RpF (vw D0 (orng a dx 0 fun _ => none) (co H)) ws fs ∧ RpAll (vw D0 (orng a dx 0 fun _ => none) (co H)) us ds ∧ sp fs ds A B ∧
  (∀ d fs' ws' v H', A d fs' → But a dx H H' → ObAt H' a dx C ws' → RpF (vw D0 (orng a dx 0 fun _ => none) (co H')) ws' fs' → Rp (vw D0 (orng a dx 0 fun _ => none) (co H')) v d → Q v H') ∧
  (∀ x fs' ws' cls dd H', B x fs' → But a dx H H' → ObAt H' a dx C ws' → RpF (vw D0 (orng a dx 0 fun _ => none) (co H')) ws' fs' → XOk mg H' x cls dd → E cls dd H')
theorem spOfO_len {C : Addr} {mg : Str → Option Value} {n : Nat} {sp : SpO} {vs : List V} {H : Hp} {Q : VK} {E : XK} (h : spOfO C mg n sp vs H Q E) : vs.length = n + 1 := by
  obtain ⟨a, dx, ws, fs, us, ds, D0, A, B, rfl, _, h1, _, _, _, _, h2, _⟩ := h
  rw [List.length_cons, h2.length, h1]
def ffl (fs : Fs) : Bool := fs.all fun e => flat e.2
theorem RpF.flatF {G G' : Hp} (h : ∀ a xs, G a = some (.tup xs) → G' a = some (.tup xs)) : ∀ {ws : List (Str × V)} {fs : Fs}, RpF G ws fs → ffl fs = true → RpF G' ws fs
  | _, _, .nil, _ => .nil
  | _, _, .cons a b, f => by
    unfold ffl at f
    rw [List.all_cons, Bool.and_eq_true] at f
    exact .cons (a.flat h f.1) (b.flatF h f.2)
theorem tup_vw {D0 : Addr → Bool} {S : Slots} {σ : St} {H : Hp} {o : Ow} (E : Env D0 S σ H o) {b : Addr} {xs : List V} (h : co H b = some (.tup xs)) : vw D0 o (co H) b = some (.tup xs) := by
  refine vw_at ?_ ?_ h
  · cases z : D0 b with
    | false => rfl
    | true => obtain ⟨u, h1, h2⟩ := E.dead b z; rw [h] at h1; cases h1; cases h2
  · cases z : o b with
    | none => rfl
    | some p => obtain ⟨_, u, h1, h2⟩ := E.live b p z; rw [h] at h1; cases h1; cases h2
/-- the object in slot i and the values ds are handed to a promise -/
theorem snd_ob {C : Addr} {D0 : Addr → Bool} {S1 : Slots} {σ : St} {H1 : Hp} {o : Ow} {i n : Nat} {a dx : Addr} {fs : Fs} {sp : SpO} {vs : List V} {ds : List PyData} {c : Prop} {A : PyData → Prop → Slots → Prop} {B : EK} {Q : VK} {XX : XK}
    (mg : Str → Option Value) (E1 : Env D0 S1 σ H1 o) (hi : S1[i]? = some (.ob a dx C fs)) (V1 : Vals' D0 o H1 vs ds c) (hl : ds.length = n)
    (hsp : sp fs ds (fun d fs' => ((c ∨ flats ds = true) ∨ ffl fs' = true) ∧ A d (c ∨ flats ds = true) (S1.set i (.ob a dx C fs'))) (fun x fs' => ((c ∨ flats ds = true) ∨ ffl fs' = true) ∧ B x (S1.set i (.ob a dx C fs'))))
    (kk : ∀ d c' S' v H', A d c' S' → Env D0 S' σ H' o → XE o H1 H' → Val D0 o H' v d c' → Q v H')
    (kx : ∀ x S' cls dd H', B x S' → Env D0 S' σ H' o → XE o H1 H' → XOk mg H' x cls dd → XX cls dd H') : spOfO C mg n sp (.ref a :: vs) H1 Q XX := by
  obtain ⟨ws, q1, q2, q3, ob, rf⟩ := E1.obAt hi
  by_cases hc : c ∨ flats ds = true
  · have rv := V1.clean E1 hc
    refine ⟨a, dx, ws, fs, vs, ds, fun b => (D0 b || (o b).isSome) && !decide (b = a) && !decide (b = dx), _, _, rfl, ob, hl, by simp, by simp, fun b hb => E1.deadV b (by simp at hb; simpa using hb.1.1), by rw [vw_borrow q2 q3]; exact rf, by rw [vw_borrow q2 q3]; exact rv, hsp,
      fun d fs' ws' v H' hd bt oa rf' r => ?_, fun x fs' ws' cls dd H' hx bt oa rf' ok => ?_⟩
    · rw [vw_borrow q2 q3] at rf' r
      obtain ⟨E2, x2⟩ := E1.obj hi bt oa rf'
      exact kk d _ _ v H' hd.2 E2 x2 ((Val.of r).imp fun _ => trivial)
    · rw [vw_borrow q2 q3] at rf'
      obtain ⟨E2, x2⟩ := E1.obj hi bt oa rf'
      exact kx x _ cls dd H' hx.2 E2 x2 ok
  · have keep : ∀ {H' : Hp} {ws' : List (Str × V)} {fs' : Fs}, But a dx H1 H' → ObAt H' a dx C ws' → RpF (vt D0 o (co H')) ws' fs' → ffl fs' = true → Env D0 (S1.set i (.ob a dx C fs')) σ H' o ∧ XE o H1 H' := fun {H' ws' fs'} bt oa rf' hf => by
      refine E1.obj hi bt oa (rf'.flatF (fun b xs e => ?_) hf)
      have e2 := vt_le _ _ e
      unfold vt at e
      split at e
      · cases e
      · rename_i hn
        refine vw_at ?_ ?_ e2
        · cases z : D0 b with
          | false => rfl
          | true => exact absurd (by rw [z, Bool.true_or]) hn
        · cases z : o b with
          | none => rfl
          | some p =>
            obtain ⟨_, u, h1, h2⟩ := E1.live b p z
            have n1 : b ≠ a := fun y => hn (by rw [y, q2]; simp [mutO])
            have n2 : b ≠ dx := fun y => hn (by rw [y, q3]; simp [mutO])
            unfold co at h1 e2
            cases y : H1 b with
            | none => rw [y] at h1; cases h1
            | some w =>
              rw [bt b w n1 n2 y] at e2
              rw [y] at h1
              rw [h1] at e2
              cases e2
              cases h2
    refine ⟨a, dx, ws, fs, vs, ds, fun b => (D0 b || mutO (o b)) && !decide (b = a) && !decide (b = dx), _, _, rfl, ob, hl, by simp, by simp, fun b hb => E1.deadM b (by simp at hb; simpa using hb.1.1), by rw [vt_borrow q2 q3]; exact rf.mono vw_le_vt, by rw [vt_borrow q2 q3]; exact V1.1, hsp,
      fun d fs' ws' v H' hd bt oa rf' r => ?_, fun x fs' ws' cls dd H' hx bt oa rf' ok => ?_⟩
    · rw [vt_borrow q2 q3] at rf' r
      obtain ⟨E2, x2⟩ := keep bt oa rf' (hd.1.resolve_left hc)
      exact kk d _ _ v H' hd.2 E2 x2 ⟨r, fun z => absurd z hc⟩
    · rw [vt_borrow q2 q3] at rf'
      obtain ⟨E2, x2⟩ := keep bt oa rf' (hx.1.resolve_left hc)
      exact kx x _ cls dd H' hx.2 E2 x2 ok
end
section
variable {X : Cx} {W : WM} {k : Nat} {pos : Pos}

/-! ### o.m(..), o.p, len(o) -/
/-- a method of the class at C -/
structure MDef (P : Program) (w : World) (K : PySem.W.Frag) (mg : Str → Option Value) (base : Heap) (k : Nat) (C : Addr) (m : Str) (n : Nat) (sp : Sp) : Prop where
  ex : ∃ (f : Addr) (fd : FuncData) (ps : List Str), FnOk P w K mg base (L2.CX P w) k f fd ps sp ∧ Meth K C m f ∧ Binds K fd ps [] ∧ ps.length = n
def tMethW (C : Addr) (m : Str) (sp : Sp) (E : St → XK) (ta : TE) (t : TA) : TE := fun σ H Q => ta σ H fun x H1 => ∃ a dx fs, x = .ref a ∧ H1 a = some (.ins C dx fs) ∧ fs.lookup m = none ∧ t σ H1 fun vs H2 => sp (x :: vs) H2 Q (E σ)
theorem pe_methW {C f : Addr} {fd : FuncData} {ps : List Str} {sp : Sp} {E : St → XK} {o e : Expr} {es : List Expr} {m : Str} {apos : Pos} {ta : TE} {t : TA} {j : Nat} {pl : Sem Bool} (he : PE X o ta) (c : Cls X.K C) (hm : Meth X.K C m f) (F : FnOk X.prog X.w X.K X.mg X.base (L2.CX X.prog X.w) j f fd ps sp) (hr : Room j X.A) (hb : Binds X.K fd ps []) (hx : ∀ σ, PassesAt (L2.CX X.prog X.w) X σ (E σ)) (ha : PA X (e :: es) t)
    (hst : starEach (e :: es) X.env = (false, eval e X.env) :: starEach es X.env := by rfl) (hpl : (backTo pos (starEach es X.env)).any (·.1) = false := by rfl)
    (ht : eval (.Call (.Attribute o m apos) (e :: es) [] pos) X.env = (do
      let ov ← eval o X.env
      standAt apos.atName
      let (f, first) ← holding [ov] (getMethod ov m pl)
      callWith pos f first (backTo pos (starEach (e :: es) X.env)) (backToKw pos (keywordEach [] X.env))) := by rfl) :
    PE X (.Call (.Attribute o m apos) (e :: es) [] pos) (tMethW C m sp E ta t) := by
  refine ⟨fun pins s σ H Q I h => ?_⟩
  refine PySem.W.methodCall_KW (pl := pl) (thn (he.run pins s σ H _ I h) fun u s1 ⟨x, H1, I1, rx, a, dx, fs, ex, ea, l, q⟩ => ?_) ht
  subst ex
  obtain rfl : u = Value.ref a := rx
  refine getmeth_ok I1 ea c hm l ?_
  refine PySem.W.callWith_K (first := [.ref a]) (h₀ := X.base) I.ok.mod.kin hm.kp (thn (ha.run pos pins s1 σ H1 _ I1 q) fun us s2 ⟨vs, H2, I2, r, q2⟩ => ⟨I2.kIn, ?_⟩) hst hpl
  exact run_fnS (us := .ref a :: us) (vs := .ref a :: vs) F hr hb (hx σ) I2 (.cons rfl r) q2
theorem pe_methW0 {C f : Addr} {fd : FuncData} {ps : List Str} {sp : Sp} {E : St → XK} {o : Expr} {m : Str} {apos : Pos} {ta : TE} {j : Nat} {pl : Sem Bool} (he : PE X o ta) (c : Cls X.K C) (hm : Meth X.K C m f) (F : FnOk X.prog X.w X.K X.mg X.base (L2.CX X.prog X.w) j f fd ps sp) (hr : Room j X.A) (hb : Binds X.K fd ps []) (hx : ∀ σ, PassesAt (L2.CX X.prog X.w) X σ (E σ))
    (ht : eval (.Call (.Attribute o m apos) [] [] pos) X.env = (do
      let ov ← eval o X.env
      standAt apos.atName
      let (f, first) ← holding [ov] (getMethod ov m pl)
      callWith pos f first (backTo pos (starEach [] X.env)) (backToKw pos (keywordEach [] X.env))) := by rfl) :
    PE X (.Call (.Attribute o m apos) [] [] pos) (tMethW C m sp E ta tNil) := by
  refine ⟨fun pins s σ H Q I h => ?_⟩
  refine PySem.W.methodCall_KW (pl := pl) (thn (he.run pins s σ H _ I h) fun u s1 ⟨x, H1, I1, rx, a, dx, fs, ex, ea, l, q⟩ => ?_) ht
  subst ex
  obtain rfl : u = Value.ref a := rx
  refine getmeth_ok I1 ea c hm l ?_
  exact PySem.W.callWith_K0 (first := [.ref a]) I1.kIn hm.kp (run_fnS (us := [.ref a]) (vs := [.ref a]) F hr hb (hx σ) I1 (.cons rfl .nil) q)
def wMeth (C : Addr) (i : Nat) (m : Str) (sp : SpO) (wa : WLs) : WEx := fun S A B => (∃ a dx fs0, S[i]? = some (.ob a dx C fs0) ∧ fs0.lookup m = none) ∧ wa S (fun ds c S1 => match S1[i]? with
  | some (.ob a dx C' fs) => C' = C ∧ sp fs ds (fun d fs' => ((c ∨ flats ds = true) ∨ ffl fs' = true) ∧ A d (c ∨ flats ds = true) (S1.set i (.ob a dx C' fs'))) (fun x fs' => ((c ∨ flats ds = true) ∨ ffl fs' = true) ∧ B x (S1.set i (.ob a dx C' fs')))
  | _ => False) B
theorem snd_meth {C : Addr} {i j n : Nat} {m : Str} {sp : SpO} {ta : TA} {wa : WLs} (a : At X W k) (sa : SndA W ta n wa) : Snd W (tMethW C m (spOfO C X.mg n sp) (WE W.w) (tVar i) ta) (wMeth C i m sp wa) := by
  intro D0 S σ H o A B Q E hw kk kx
  obtain ⟨⟨oa, dx, fs0, hs0, hl0⟩, hw⟩ := hw
  obtain ⟨ws, q1, q2, q3, ob, rf⟩ := E.obAt hs0
  have hn : ws.lookup m = none := by
    have := (rf.look m).1
    rw [hl0] at this
    cases e : ws.lookup m with
    | none => rfl
    | some _ => rw [e] at this; cases this
  refine ⟨.ref oa, q1, oa, dx, ws, rfl, ob.i, hn, ?_⟩
  refine sa D0 S σ H o _ B _ E hw (fun ds c S1 vs H1 hl h1 E1 x1 V1 => ?_) kx
  split at h1
  · rename_i a' dx' C' fs hs1
    obtain ⟨rfl, hsp⟩ := h1
    obtain ⟨ws1, r1, _⟩ := E1.obAt hs1
    rw [q1] at r1
    cases r1
    exact snd_ob X.mg E1 hs1 V1 hl hsp (fun d c' S' v H' hd E' x' V' => kk d c' S' v H' hd E' (x1.trans x') V') fun x S' cls dd H' hx E' x' ok => kx x S' cls dd H' hx E' (x1.trans x') (by rw [a.mq]; exact ok)
  · exact h1.elim
theorem se_meth {C : Addr} {j n : Nat} (i : Nat) {sp : SpO} {x m : Str} {p apos : Pos} {e : Expr} {es : List Expr} {wa : WLs} (a : At X W k) (c : Cls X.K C) (F : MDef X.prog X.w X.K X.mg X.base j C m (n + 1) (spOfO C X.mg n sp)) (hj : j ≤ k) (ha : SA X W (e :: es) wa)
    (hN : X.N[i]? = some x := by rfl) (hv : Vis X.env.scope x := by first | exact Or.inl rfl | exact Or.inr (Or.inl rfl) | exact Or.inr (Or.inr rfl)) (hd : (x == ("__debug__" : Str)) = false := by decide) (hcd : (x == ("__classdict__" : Str)) = false := by decide)
    (hst : starEach (e :: es) X.env = (false, eval e X.env) :: starEach es X.env := by rfl) (hpl : (backTo pos (starEach es X.env)).any (·.1) = false := by rfl) (hn : (e :: es).length = n := by rfl) {pl : Sem Bool}
    (ht : eval (.Call (.Attribute (.Name x p) m apos) (e :: es) [] pos) X.env = (do
      let ov ← eval (.Name x p) X.env
      standAt apos.atName
      let (f, first) ← holding [ov] (getMethod ov m pl)
      callWith pos f first (backTo pos (starEach (e :: es) X.env)) (backToKw pos (keywordEach [] X.env))) := by rfl) :
    SE X W (.Call (.Attribute (.Name x p) m apos) (e :: es) [] pos) (wMeth C i m sp wa) := by
  obtain ⟨ta, pa, sa⟩ := ha.ex
  subst hn
  obtain ⟨f, fd, ps, G, hm, hb, hps⟩ := F.ex
  exact ⟨_, pe_methW (pl := pl) (pe_var hN hv hd hcd) c hm G (a.room.mono hj) hb a.tk pa hst hpl ht, snd_meth (j := j) a sa⟩
theorem se_meth0 {C : Addr} {j : Nat} (i : Nat) {sp : SpO} {x m : Str} {p apos : Pos} (a : At X W k) (c : Cls X.K C) (F : MDef X.prog X.w X.K X.mg X.base j C m 1 (spOfO C X.mg 0 sp)) (hj : j ≤ k)
    (hN : X.N[i]? = some x := by rfl) (hv : Vis X.env.scope x := by first | exact Or.inl rfl | exact Or.inr (Or.inl rfl) | exact Or.inr (Or.inr rfl)) (hd : (x == ("__debug__" : Str)) = false := by decide) (hcd : (x == ("__classdict__" : Str)) = false := by decide) {pl : Sem Bool}
    (ht : eval (.Call (.Attribute (.Name x p) m apos) [] [] pos) X.env = (do
      let ov ← eval (.Name x p) X.env
      standAt apos.atName
      let (f, first) ← holding [ov] (getMethod ov m pl)
      callWith pos f first (backTo pos (starEach [] X.env)) (backToKw pos (keywordEach [] X.env))) := by rfl) :
    SE X W (.Call (.Attribute (.Name x p) m apos) [] [] pos) (wMeth C i m sp wNil) := by
  obtain ⟨ta, pa, sa⟩ := (sa_nil (X := X) (W := W)).ex
  obtain ⟨f, fd, ps, G, hm, hb, hps⟩ := F.ex
  refine ⟨_, pe_methW0 (pl := pl) (pe_var hN hv hd hcd) c hm G (a.room.mono hj) hb a.tk ht, snd_meth (j := j) a fun D0 S σ H o A B Q E hw k kx => k _ _ _ _ H rfl hw E (XE.refl o H) ⟨.nil, fun _ => .nil⟩⟩
theorem pass_no {X : Cx} {P : Program} {w : World} : Passes (L2.CX P w) X (fun _ _ _ => False) := fun _ _ _ _ _ _ _ h => by
  obtain ⟨_, _, _, _, _, _, _, _, _, _, _, _, h⟩ := h
  exact h.elim
/-- o.p, a property -/
def wProp (C : Addr) (i : Nat) (sp : SpO) : WEx := fun S A _ => match S[i]? with
  | some (.ob a dx C' fs) => C' = C ∧ sp fs [] (fun d fs' => ((True ∨ flats [] = true) ∨ ffl fs' = true) ∧ A d (True ∨ flats [] = true) (S.set i (.ob a dx C' fs'))) (fun _ fs' => ((True ∨ flats [] = true) ∨ ffl fs' = true) ∧ False)
  | _ => False
structure PDef (P : Program) (w : World) (K : PySem.W.Frag) (mg : Str → Option Value) (base : Heap) (k : Nat) (C : Addr) (m : Str) (sp : Sp) : Prop where
  ex : ∃ (p g : Addr) (fd : FuncData) (ps : List Str), FnOk P w K mg base (L2.CX P w) k g fd ps sp ∧ PropOf K C m p g ∧ Binds K fd ps []
theorem se_prop {C : Addr} {j : Nat} (i : Nat) {sp : SpO} {x f : Str} {p : Pos} (a : At X W k) (c : Cls X.K C) (F : PDef X.prog X.w X.K X.mg X.base j C f (spOfO C X.mg 0 sp)) (hj : j + 1 ≤ k)
    (hN : X.N[i]? = some x := by rfl) (hv : Vis X.env.scope x := by first | exact Or.inl rfl | exact Or.inr (Or.inl rfl) | exact Or.inr (Or.inr rfl)) (hd : (x == ("__debug__" : Str)) = false := by decide) (hcd : (x == ("__classdict__" : Str)) = false := by decide)
    (hab : attributeBase (.Name x p) f X.env (eval (.Name x p) X.env) = eval (.Name x p) X.env := by rfl) : SE X W (.Attribute (.Name x p) f pos) (wProp C i sp) := by
  obtain ⟨pp, g, fd, ps, G, hp, hb⟩ := F.ex
  refine ⟨_, pe_prop (E := fun _ _ _ => False) (dvs := []) (pe_var hN hv hd hcd) c hp G (a.room.mono hj) hb .nil pass_no hab, ?_⟩
  intro D0 S σ H o A B Q E hw kk kx
  unfold wProp at hw
  split at hw
  · rename_i oa dx C' fs hs
    obtain ⟨rfl, hsp⟩ := hw
    obtain ⟨ws, q1, q2, q3, ob, rf⟩ := E.obAt hs
    exact ⟨.ref oa, q1, oa, dx, ws, rfl, ob.i, snd_ob (c := True) (A := A) (B := noX) X.mg E hs ⟨.nil, fun _ => .nil⟩ rfl hsp (fun d c' S' v H' hd E' x' V' => kk d c' S' v H' hd E' x' V') fun _ _ _ _ _ h => h.elim⟩
  · exact hw.elim
/-- len(o) -/
theorem cr_lenO {C f : Addr} {fd : FuncData} {ps : List Str} {sp : Sp} {j : Nat} (hs : PySem.W.findIn X.K (.ref C) "__len__" = some (some (.ref f))) (hf : PySem.W.isFn X.K (.ref f) = true) (F : FnOk X.prog X.w X.K X.mg X.base (L2.CX X.prog X.w) j f fd ps sp) (hb : Binds X.K fd ps []) (hr : Room (j + 1) X.A) :
    CallR X (.builtin "len") (fun vs H Q => ∃ a dx ws, vs = [.ref a] ∧ H a = some (.ins C dx ws) ∧ sp [.ref a] H (fun v H' => ∃ n : Int, v = .int n ∧ 0 ≤ n ∧ n < 2 ^ 63 ∧ Q v H') fun _ _ _ => False) := by
  intro pins s σ H xs us Q I r h
  obtain ⟨a, dx, ws, rfl, ea, q⟩ := h
  rw [Vals.ref1 r]
  obtain ⟨mA, O, _, _, _, _⟩ := ins_get I.hok ea
  obtain ⟨od, J, _⟩ := O.look
  obtain ⟨m, hF⟩ := I.fr
  have hl : ([Value.ref a] ++ ([] : List Value)).length = ps.length := by rw [← F.len _ _ _ _ q]; rfl
  refine PySem.W.len_K hF I.ok.mod.kin J hs hf (wpAny_call (codeAny_mono (F.run X.A.in1 X.stack s H ⟨[.ref a], []⟩ [.ref a] [.ref a] _ _ hr.in1 I.env0.in1 (hb _ [.ref a] I.kIn hl) (.cons rfl .nil) q) fun r s' hq => ?_))
  cases r with
  | error er => exact False.elim (pass_no (X := X.nox) pins σ H s er s' (I.wish _) hq)
  | ok fl =>
    cases fl with
    | ret u =>
      obtain ⟨v, H', I3, rv, n, ev, n0, n1, q3⟩ := I.after hq
      subst ev
      obtain ⟨t, rfl⟩ := rv
      exact ⟨⟨n0, n1⟩, .int n, H', I3.tok _, ⟨_, rfl⟩, q3⟩
    | next => exact False.elim hq
    | brk => exact False.elim hq
    | cont => exact False.elim hq

def wLenO (C : Addr) (i : Nat) (sp : SpO) : WEx := fun S A _ => match S[i]? with
  | some (.ob a dx C' fs) => C' = C ∧ sp fs [] (fun d fs' => ((True ∨ flats [] = true) ∨ ffl fs' = true) ∧ match d with
    | .int n => 0 ≤ n ∧ n < 2 ^ 63 ∧ A (.int n) True (S.set i (.ob a dx C' fs'))
    | _ => False) (fun _ fs' => ((True ∨ flats [] = true) ∨ ffl fs' = true) ∧ False)
  | _ => False
theorem se_lenO {C : Addr} {j : Nat} (i : Nat) {sp : SpO} {x : Str} {p q : Pos} (a : At X W k) (F : MDef X.prog X.w X.K X.mg X.base j C "__len__" 1 (spOfO C X.mg 0 sp)) (hj : j + 1 ≤ k) (hm : X.mg "len" = none) (hv0 : bootBuiltins "len" = some (.builtin "len"))
    (hN : X.N[i]? = some x := by rfl) (hv : Vis X.env.scope x := by first | exact Or.inl rfl | exact Or.inr (Or.inl rfl) | exact Or.inr (Or.inr rfl)) (hd : (x == ("__debug__" : Str)) = false := by decide) (hcd : (x == ("__classdict__" : Str)) = false := by decide) (hg : Gl X "len" := by rfl)
    (hst : starEach [.Name x q] X.env = (false, eval (.Name x q) X.env) :: starEach [] X.env := by rfl) (hpl : (backTo pos (starEach [] X.env)).any (·.1) = false := by rfl) : SE X W (.Call (.Name "len" p) [.Name x q] [] pos) (wLenO C i sp) := by
  obtain ⟨f, fd, ps, G, hme, hb, hps⟩ := F.ex
  refine ⟨_, pe_callB (cr_lenO hme.at_ hme.fn G hb (a.room.mono hj)) hg hm hv0 (pa_cons (pe_var hN hv hd hcd) pa_nil hst) (by decide) (by decide) hst hpl, ?_⟩
  intro D0 S σ H o A B Q E hw kk kx
  unfold wLenO at hw
  split at hw
  · rename_i oa dx C' fs hs
    obtain ⟨rfl, hsp⟩ := hw
    obtain ⟨ws, q1, q2, q3, ob, rf⟩ := E.obAt hs
    refine ⟨.ref oa, q1, oa, dx, ws, rfl, ob.i, snd_ob (c := True) (A := fun d _ S' => match d with
      | .int n => 0 ≤ n ∧ n < 2 ^ 63 ∧ A (.int n) True S'
      | _ => False) (B := noX) X.mg E hs ⟨.nil, fun _ => .nil⟩ rfl hsp (fun d c' S' v H' hd E' x' V' => ?_) fun _ _ _ _ _ h => h.elim⟩
    split at hd
    · obtain ⟨n0, n1, hd⟩ := hd
      cases V'.1
      exact ⟨_, rfl, n0, n1, kk _ True S' _ H' hd E' x' (Val.of (.int _))⟩
    · exact hd.elim
  · exact hw.elim
/-- f(o, ..) -/
def wCallO (C : Addr) (i : Nat) (sp : SpO) (wa : WLs) : WEx := fun S A B => (∃ a dx fs0, S[i]? = some (.ob a dx C fs0)) ∧ wa S (fun ds c S1 => match S1[i]? with
  | some (.ob a dx C' fs) => C' = C ∧ sp fs ds (fun d fs' => ((c ∨ flats ds = true) ∨ ffl fs' = true) ∧ A d (c ∨ flats ds = true) (S1.set i (.ob a dx C' fs'))) (fun x fs' => ((c ∨ flats ds = true) ∨ ffl fs' = true) ∧ B x (S1.set i (.ob a dx C' fs')))
  | _ => False) B
theorem se_callO {C : Addr} {j n : Nat} (i : Nat) {sp : SpO} {x y : Str} {p q : Pos} {es : List Expr} {wa : WLs} (a : At X W k) (F : Def X.prog X.w X.K X.mg X.base j y (n + 1) (spOfO C X.mg n sp)) (hj : j ≤ k) (ha : SA X W es wa) (hN : X.N[i]? = some x := by rfl) (hv : Vis X.env.scope x := by first | exact Or.inl rfl | exact Or.inr (Or.inl rfl) | exact Or.inr (Or.inr rfl))
    (hd : (x == ("__debug__" : Str)) = false := by decide) (hcd : (x == ("__classdict__" : Str)) = false := by decide) (hg : Gl X y := by rfl) (hdb : (y == ("__debug__" : Str)) = false := by decide)
    (hst : starEach (.Name x q :: es) X.env = (false, eval (.Name x q) X.env) :: starEach es X.env := by rfl) (hpl : (backTo pos (starEach es X.env)).any (·.1) = false := by rfl) (hn : es.length = n := by rfl) :
    SE X W (.Call (.Name y p) (.Name x q :: es) [] pos) (wCallO C i sp wa) := by
  obtain ⟨ta, pa, sa⟩ := ha.ex
  subst hn
  obtain ⟨f, fd, ps, G, hm, hk, hb, hps⟩ := F.ex
  refine ⟨_, pe_callS G (a.room.mono hj) hg hm hk hb a.tk (pa_cons (pe_var hN hv hd hcd) pa hst) hdb hst hpl, ?_⟩
  intro D0 S σ H o A B Q E hw kk kx
  obtain ⟨⟨oa, dx, fs0, hs0⟩, hw⟩ := hw
  obtain ⟨ws, q1, q2, q3, ob, rf⟩ := E.obAt hs0
  refine ⟨.ref oa, q1, sa D0 S σ H o _ B _ E hw (fun ds c S1 vs H1 hl h1 E1 x1 V1 => ?_) kx⟩
  split at h1
  · rename_i a' dx' C' fs hs1
    obtain ⟨rfl, hsp⟩ := h1
    obtain ⟨ws1, r1, _⟩ := E1.obAt hs1
    rw [q1] at r1
    cases r1
    exact snd_ob X.mg E1 hs1 V1 hl hsp (fun d c' S' v H' hd E' x' V' => kk d c' S' v H' hd E' (x1.trans x') V') fun x S' cls dd H' hx E' x' ok => kx x S' cls dd H' hx E' (x1.trans x') (by rw [a.mq]; exact ok)
  · exact h1.elim
end
theorem env_startO {D0 : Addr → Bool} {N : List Str} {us : List V} {ds : List PyData} {H : Hp} {a dx C : Addr} {ws : List (Str × V)} {fs : Fs} (ob : ObAt H a dx C ws) (d1 : D0 a = false) (d2 : D0 dx = false) (hd : ∀ b, D0 b = true → ∃ u, co H b = some u ∧ isTup u = false)
    (rf : RpF (vw D0 (orng a dx 0 fun _ => none) (co H)) ws fs) (r : RpAll (vw D0 (orng a dx 0 fun _ => none) (co H)) us ds) (hN : 1 ≤ N.length) :
    Env D0 (.ob a dx C fs :: startS (N.length - 1) ds) (L2.start N (.ref a :: us)) H (orng a dx 0 fun _ => none) := by
  have r1 : co H a = some (.ins C dx ws) := co_of ob.i
  have r2 : co H dx = some (.own a) := co_of ob.d
  have es : L2.start N (.ref a :: us) = some (.ref a) :: (us.map some ++ List.replicate (N.length - 1 - us.length) none) := by
    unfold L2.start
    rw [List.map_cons, List.cons_append, List.length_cons]
    have e : N.length - (us.length + 1) = N.length - 1 - us.length := by omega
    rw [e]
  refine ⟨?_, fun b p e => ?_, hd, fun i s e => ?_, fun b p u e h => ?_⟩
  · rw [es]
    unfold startS
    simp [r.length]
  · unfold orng at e
    split at e
    · rename_i hb
      rcases hb with hb | hb
      · subst hb; exact ⟨d1, _, r1, rfl⟩
      · subst hb; exact ⟨d2, _, r2, rfl⟩
    · cases e
  · rw [es]
    cases i with
    | zero =>
      cases e
      exact ⟨ws, rfl, if_pos (.inl rfl), if_pos (.inr rfl), ob.ne, r1, r2, rf⟩
    | succ i =>
      rw [List.getElem?_cons_succ] at e ⊢
      unfold startS at e
      by_cases hi : i < ds.length
      · rw [List.getElem?_append_left (by simpa using hi), List.getElem?_map, List.getElem?_eq_getElem hi] at e
        cases e
        obtain ⟨v, h1, h2⟩ := r.get (List.getElem?_eq_getElem hi)
        refine ⟨v, ?_, h2⟩
        rw [List.getElem?_append_left (by simpa [r.length] using hi), List.getElem?_map, h1]
        rfl
      · rw [List.getElem?_append_right (by simpa using hi), List.getElem?_replicate] at e
        split at e
        · cases e
          trivial
        · cases e
  · unfold orng at e
    split at e
    · rename_i hb
      rcases hb with hb | hb
      · subst hb; rw [ob.i] at h; cases h; rfl
      · subst hb; rw [ob.d] at h; cases h; rfl
    · cases e
section
variable {P : Program} {w : World} {K : PySem.W.Frag} {mg : Str → Option Value} {base : Heap}
/-- THE RULE for a def (a method) whose first parameter is an object of the class at C -/
theorem def_okO {C : Addr} {x q : Str} {st : Stmt} {f : Addr} {fd : FuncData} {N ps : List Str} {k : Nat} {sp : SpO} (F : Fun K x q st f fd) (S : FnScope N ps (defScope st)) (hp : 1 ≤ ps.length) (hN : 1 ≤ N.length)
    (hb : ∀ (cdv : Value) (A : Around) (outer : List PySem.Env) (s : Shared) (H : Hp) (E : XK), At (cxOf (L2.CX P w) P w K mg base N q (defScope st) f cdv A outer s H E) ⟨mg, fun cls d _ H' => E cls d H'⟩ k →
      ∃ wb, SSs (cxOf (L2.CX P w) P w K mg base N q (defScope st) f cdv A outer s H E) ⟨mg, fun cls d _ H' => E cls d H'⟩ (defBody st) wb ∧
        ∀ fs ds A B a dx, ds.length = ps.length - 1 → sp fs ds A B → wb (.ob a dx C fs :: startS (N.length - 1) ds) ⟨fun S => ∃ fs', S[0]? = some (.ob a dx C fs') ∧ A .none fs', fun d _ S => ∃ fs', S[0]? = some (.ob a dx C fs') ∧ A d fs', fun _ => False, fun _ => False, fun x S => ∃ fs', S[0]? = some (.ob a dx C fs') ∧ B x fs'⟩) :
    FnOk P w K mg base (L2.CX P w) (k + 1) f fd ps (spOfO C mg (ps.length - 1) sp) := by
  refine F.okX S (fun vs H Q E h => by rw [spOfO_len h]; omega) (fun cdv A outer s H vs Q E hr h => ?_)
  obtain ⟨a, dx, ws, fs, us, ds, D0, A', B', rfl, ob, hl, d1, d2, hd, rf, r, hsp, hA, hB⟩ := h
  have at_ : At (cxOf (L2.CX P w) P w K mg base N q (defScope st) f cdv A outer s H E) ⟨mg, fun cls d _ H' => E cls d H'⟩ k := ⟨hr, rfl, takes_of rfl rfl rfl rfl, rfl, S.nd, passes_of rfl⟩
  obtain ⟨wb, hp, hw⟩ := hb cdv A outer s H E at_
  obtain ⟨t, pt, st'⟩ := hp.ex
  refine ⟨t, pt, ?_⟩
  have bt : ∀ {H' : Hp} {o' : Ow}, Fr (orng a dx 0 fun _ => none) H o' H' → But a dx H H' := fun {H' o'} f b u n1 n2 e => (f b u (if_neg (fun z => z.elim n1 n2)) e).1
  have ends : ∀ {S' : Slots} {σ' : St} {H' : Hp} {o' : Ow} {fs' : Fs}, S'[0]? = some (.ob a dx C fs') → Env D0 S' σ' H' o' → ∃ ws', ObAt H' a dx C ws' ∧ RpF (vw D0 (orng a dx 0 fun _ => none) (co H')) ws' fs' ∧ ∀ {v : V} {d : PyData}, Rp (vt D0 o' (co H')) v d → Rp (vw D0 (orng a dx 0 fun _ => none) (co H')) v d := fun {S' σ' H' o' fs'} hs E' => by
    obtain ⟨ws', k1, k2, k3, k4, k5⟩ := E'.obAt hs
    have le : Le (vt D0 o' (co H')) (vw D0 (orng a dx 0 fun _ => none) (co H')) := fun b u e => by
      unfold vt at e
      unfold vw orng
      split at e
      · cases e
      · rename_i hn
        have n1 : b ≠ a := fun z => hn (by rw [z, k2]; simp [mutO])
        have n2 : b ≠ dx := fun z => hn (by rw [z, k3]; simp [mutO])
        have n3 : D0 b = false := by
          cases q : D0 b with
          | false => rfl
          | true => exact absurd (by rw [q, Bool.true_or]) hn
        have n4 : (if b = a ∨ b = dx then some (0, true) else (none : Option (Nat × Bool))) = none := if_neg (fun z => z.elim n1 n2)
        show (if (D0 b || (if b = a ∨ b = dx then some (0, true) else (none : Option (Nat × Bool))).isSome) = true then none else co H' b) = some u
        rw [n3, n4]
        exact e
    exact ⟨ws', k4, k5.mono (vw_le_vt.trans le), fun {v d} q => q.mono le⟩
  refine st' D0 _ _ H _ _ _ (env_startO ob d1 d2 hd rf r hN) (hw fs ds A' B' a dx hl hsp)
    ⟨fun S' σ' H' o' h E' f => ?_, fun _ _ _ _ h => h.elim, fun _ _ _ _ h => h.elim, fun d c' S' v σ' H' o' h E' f V => ?_, fun x S' σ' cls dd H' o' h E' f ok => ?_⟩
  · obtain ⟨fs', h1, h2⟩ := h
    obtain ⟨ws', e1, e2, e3⟩ := ends h1 E'
    exact hA _ _ _ _ _ h2 (bt f) e1 e2 .non
  · obtain ⟨fs', h1, h2⟩ := h
    obtain ⟨ws', e1, e2, e3⟩ := ends h1 E'
    exact hA _ _ _ _ _ h2 (bt f) e1 e2 (e3 V.1)
  · obtain ⟨fs', h1, h2⟩ := h
    obtain ⟨ws', e1, e2, e3⟩ := ends h1 E'
    exact hB _ _ _ _ _ _ h2 (bt f) e1 e2 ok
end
end Pu

namespace Pu
open PySem L2

/-! ### new objects -/
abbrev WB := Slots → (Fs → Slots → Prop) → EK → Prop
def obHp (H : Hp) (p dx C : Addr) (ws : List (Str × V)) : Hp := upd (upd H dx (.own p)) p (.ins C dx ws)
def SndB (W : WM) (C : Addr) (t : TE) (w : WB) : Prop := ∀ (D0 : Addr → Bool) (S : Slots) (σ : St) (H : Hp) (o : Ow) (A : Fs → Slots → Prop) (B : EK) (Q : VK), Env D0 S σ H o → w S A B →
  (∀ fs S' p dx ws H1, A fs S' → Env D0 S' σ H1 o → XE o H H1 → H1 p = none → H1 dx = none → p ≠ dx → RpF (vw D0 o (co H1)) ws fs → Q (.ref p) (obHp H1 p dx C ws)) → Xw W D0 σ o H B → t σ H Q
structure SB (X : Cx) (W : WM) (C : Addr) (e : Expr) (w : WB) : Prop where
  ex : ∃ t, PE X e t ∧ SndB W C t w
/-- the heap less an object and its attributes -/
def rm2 (H : Hp) (p dx : Addr) : Hp := rm (rm H p) dx
theorem rm2_ne {H : Hp} {p dx b : Addr} (h1 : b ≠ p) (h2 : b ≠ dx) : rm2 H p dx b = H b := by unfold rm2; rw [rm_ne h2, rm_ne h1]
theorem rm2_p {H : Hp} {p dx : Addr} (h : p ≠ dx) : rm2 H p dx p = none := by unfold rm2; rw [rm_ne h]; exact rm_at
theorem rm2_d {H : Hp} {p dx : Addr} : rm2 H p dx dx = none := rm_at
theorem ob_rm2 {H : Hp} {p dx C : Addr} {ws : List (Str × V)} (o : ObAt H p dx C ws) : obHp (rm2 H p dx) p dx C ws = H := by
  funext b
  unfold obHp
  by_cases n1 : b = p
  · rw [n1, upd_same, o.i]
  · rw [upd_ne n1]
    by_cases n2 : b = dx
    · rw [n2, upd_same, o.d]
    · rw [upd_ne n2, rm2_ne n1 n2]
theorem obAt_hp {H : Hp} {p dx C : Addr} {ws : List (Str × V)} (h : p ≠ dx) : ObAt (obHp H p dx C ws) p dx C ws := ⟨h, upd_same, by unfold obHp; rw [upd_ne (Ne.symm h), upd_same]⟩
theorem obHp_ne {H : Hp} {p dx C b : Addr} {ws : List (Str × V)} (h1 : b ≠ p) (h2 : b ≠ dx) : obHp H p dx C ws b = H b := by unfold obHp; rw [upd_ne h1, upd_ne h2]
theorem co_eq {H H' : Hp} {b : Addr} (h : H b = H' b) : co H b = co H' b := by unfold co; rw [h]
/-- the views of a callee that is handed a new object -/
theorem vw_nob {D0 : Addr → Bool} {o : Ow} {H H' : Hp} {p dx : Addr} {i : Nat} (hp : H p = none) (hd : H dx = none) (he : ∀ b, b ≠ p → b ≠ dx → H' b = H b) : vw D0 (orng p dx i o) (co H') = vw D0 o (co H) := by
  funext b
  unfold vw
  by_cases n1 : b = p
  · subst n1
    have e1 : orng b dx i o b = some (i, true) := if_pos (.inl rfl)
    rw [e1, if_pos (by simp)]
    split
    · rfl
    · exact (co_none.mpr hp).symm
  · by_cases n2 : b = dx
    · subst n2
      have e1 : orng p b i o b = some (i, true) := if_pos (.inr rfl)
      rw [e1, if_pos (by simp)]
      split
      · rfl
      · exact (co_none.mpr hd).symm
    · have e1 : orng p dx i o b = o b := if_neg (fun z => z.elim n1 n2)
      rw [e1, co_eq (he b n1 n2)]
theorem vw_call {D0 : Addr → Bool} {o : Ow} {C : Hp} {p dx : Addr} (hp : o p = none) (hd : o dx = none) : vw (fun b => D0 b || (o b).isSome) (orng p dx 0 fun _ => none) C = vw D0 (orng p dx 0 o) C := by
  funext b
  unfold vw orng
  by_cases n1 : b = p
  · subst n1; simp
  · by_cases n2 : b = dx
    · subst n2; simp
    · simp [n1, n2]
section
variable {X : Cx} {W : WM} {k : Nat} {pos : Pos}
def tMakeW (C : Addr) (sp : Sp) (E : St → XK) (t : TA) : TE := fun σ H Q => t σ H fun vs H1 => ∀ x dx, H1 x = none → H1 dx = none → dx ≠ x → sp (.ref x :: vs) (upd (upd H1 dx (.own x)) x (.ins C dx [])) (fun v H2 => v = .non ∧ Q (.ref x) H2) (E σ)
theorem run_makeW {C f : Addr} {fd : FuncData} {ps : List Str} {sp : Sp} {E : XK} {j : Nat} {pins : List (Addr × Obj)} {σ : St} {H : Hp} {s : Shared} {Q : VK} {us : List Value} {vs : List V} (M : Mk X.K C f) (F : FnOk X.prog X.w X.K X.mg X.base (L2.CX X.prog X.w) j f fd ps sp) (hr : Room (j + 1) X.A) (hb : Binds X.K fd ps [])
    (hx : PassesAt (L2.CX X.prog X.w) X σ E) (I : L2.Inv X pins σ H s) (r : Vals vs us)
    (h : ∀ x dx, H x = none → H dx = none → dx ≠ x → sp (.ref x :: vs) (upd (upd H dx (.own x)) x (.ins C dx [])) (fun v H2 => v = .non ∧ Q (.ref x) H2) E) :
    wpAny (model X.prog X.w) X.A (call (.ref C) us) (EP X pins σ Q) X.xe s := by
  have hq := h (s.heap.objs.size + 1) s.heap.objs.size (I.hok.fresh (Nat.le_succ _)) (I.hok.fresh (Nat.le_refl _)) (Nat.ne_of_lt (Nat.lt_succ_self _))
  have I2 := L2.Inv.made (C := C) I
  have r2 : Vals (V.ref (s.heap.objs.size + 1) :: vs) (Value.ref (s.heap.objs.size + 1) :: us) := .cons rfl r
  have hl : (Value.ref (s.heap.objs.size + 1) :: us).length = ps.length := by
    have e := r2.length
    rw [F.len _ _ _ _ hq] at e
    exact e.symm
  have b := hb _ (Value.ref (s.heap.objs.size + 1) :: us) I2.kIn (by rw [List.append_nil]; exact hl)
  rw [List.append_nil] at b
  refine wpAny_call (make_map (f := f) I.kIn M.makes M.init (beq_iff_eq.mp M.fn) (codeAny_mono (F.run _ X.stack _ _ ⟨Value.ref (s.heap.objs.size + 1) :: us, []⟩ (Value.ref (s.heap.objs.size + 1) :: us) _ _ E (hr.make C us [])
    (I2.env0.make C us []) b r2 hq) fun r s' hq' => ?_))
  cases r with
  | error e => exact hx pins _ _ e s' I2 hq'
  | ok fl =>
    cases fl with
    | ret u =>
      obtain ⟨v, H', I3, rv, ev, q3⟩ := I2.after hq'
      subst ev
      exact ⟨rv, ⟨V.ref (s.heap.objs.size + 1), H', I3, rfl, q3⟩⟩
    | next => exact False.elim hq'
    | brk => exact False.elim hq'
    | cont => exact False.elim hq'
theorem pe_makeW {C f : Addr} {fd : FuncData} {ps : List Str} {sp : Sp} {E : St → XK} {j : Nat} {x : Str} {p : Pos} {e : Expr} {es : List Expr} {t : TA} (M : Mk X.K C f) (F : FnOk X.prog X.w X.K X.mg X.base (L2.CX X.prog X.w) j f fd ps sp) (hr : Room (j + 1) X.A) (hg : Gl X x) (hm : X.mg x = some (.ref C)) (hb : Binds X.K fd ps []) (hx : ∀ σ, PassesAt (L2.CX X.prog X.w) X σ (E σ))
    (ha : PA X (e :: es) t) (hdb : (x == ("__debug__" : Str)) = false := by decide) (he : starEach (e :: es) X.env = (false, eval e X.env) :: starEach es X.env := by rfl) (hpl : (backTo pos (starEach es X.env)).any (·.1) = false := by rfl) :
    PE X (.Call (.Name x p) (e :: es) [] pos) (tMakeW C sp E t) := by
  refine ⟨fun pins s σ H Q I h => ?_⟩
  refine wpAny_Call_Name_kw (ld_glob I hg hm ?_ hdb)
  refine PySem.W.callWith_K (h₀ := X.base) I.ok.mod.kin M.kp (thn (ha.run pos pins s σ H _ I h) fun us s1 ⟨vs, H1, I1, r, q⟩ => ⟨I1.kIn, ?_⟩) he hpl
  exact run_makeW M F hr hb (hx σ) I1 r q
/-- the class x, its __init__ -/
structure CDef (P : Program) (w : World) (K : PySem.W.Frag) (mg : Str → Option Value) (base : Heap) (k : Nat) (C : Addr) (x : Str) (n : Nat) (sp : Sp) : Prop where
  ex : ∃ (f : Addr) (fd : FuncData) (ps : List Str), FnOk P w K mg base (L2.CX P w) k f fd ps sp ∧ mg x = some (.ref C) ∧ Mk K C f ∧ Binds K fd ps [] ∧ ps.length = n
def wMake (sp : SpO) (wa : WLs) : WB := fun S A B => wa S (fun ds c S1 => (c ∨ flats ds = true) ∧ sp [] ds (fun d fs' => d = .none ∧ A fs' S1) (fun x _ => B x S1)) B
theorem sb_make {C : Addr} {j n : Nat} {sp : SpO} {x : Str} {p : Pos} {e : Expr} {es : List Expr} {wa : WLs} (a : At X W k) (F : CDef X.prog X.w X.K X.mg X.base j C x (n + 1) (spOfO C X.mg n sp)) (hj : j + 1 ≤ k) (ha : SA X W (e :: es) wa)
    (hg : Gl X x := by rfl) (hdb : (x == ("__debug__" : Str)) = false := by decide) (he : starEach (e :: es) X.env = (false, eval e X.env) :: starEach es X.env := by rfl) (hpl : (backTo pos (starEach es X.env)).any (·.1) = false := by rfl) (hn : (e :: es).length = n := by rfl) :
    SB X W C (.Call (.Name x p) (e :: es) [] pos) (wMake sp wa) := by
  obtain ⟨ta, pa, sa⟩ := ha.ex
  subst hn
  obtain ⟨f, fd, ps, G, hm, M, hb, hps⟩ := F.ex
  refine ⟨_, pe_makeW M G (a.room.mono hj) hg hm hb a.tk pa hdb he hpl, ?_⟩
  intro D0 S σ H o A B Q E hw kk kx
  refine sa D0 S σ H o _ B _ E hw (fun ds c S1 vs H1 hl h1 E1 x1 V1 => ?_) kx
  intro x dx hx hdx hne
  obtain ⟨hc, hsp⟩ := h1
  have rv := V1.clean E1 hc
  have nx := E1.new hx
  have nd := E1.new hdx
  have hne' : x ≠ dx := Ne.symm hne
  have he1 : ∀ b, b ≠ x → b ≠ dx → obHp H1 x dx C [] b = H1 b := fun b n1 n2 => obHp_ne n1 n2
  have view : vw (fun b => D0 b || (o b).isSome) (orng x dx 0 fun _ => none) (co (obHp H1 x dx C [])) = vw D0 o (co H1) := by
    rw [vw_call nx.2 nd.2]
    exact vw_nob hx hdx he1
  refine ⟨x, dx, [], [], vs, ds, fun b => D0 b || (o b).isSome, fun d fs' => d = .none ∧ A fs' S1, fun y _ => B y S1, rfl, obAt_hp hne', hl, by simp [nx.1, nx.2], by simp [nd.1, nd.2], fun b hb => ?_, .nil, by rw [show upd (upd H1 dx (.own x)) x (.ins C dx []) = obHp H1 x dx C [] from rfl, view]; exact rv, hsp, fun d fs' ws' v H' hd bt oa rf r => ?_, fun y fs' ws' cls dd H' hy bt oa rf ok => ?_⟩
  · obtain ⟨u, h2, h3⟩ := E1.deadV b hb
    refine ⟨u, ?_, h3⟩
    have n1 : b ≠ x := fun z => by rw [z, co_none.mpr hx] at h2; cases h2
    have n2 : b ≠ dx := fun z => by rw [z, co_none.mpr hdx] at h2; cases h2
    show co (obHp H1 x dx C []) b = some u
    rw [co_eq (he1 b n1 n2)]
    exact h2
  · obtain ⟨rfl, hA⟩ := hd
    cases r
    refine ⟨rfl, ?_⟩
    have le : Le H1 (rm2 H' x dx) := fun b u e => by
      have n1 : b ≠ x := ne_of_none e hx
      have n2 : b ≠ dx := ne_of_none e hdx
      rw [rm2_ne n1 n2]
      exact bt b u n1 n2 (by rw [show upd (upd H1 dx (.own x)) x (.ins C dx []) = obHp H1 x dx C [] from rfl, he1 b n1 n2]; exact e)
    have view2 : vw (fun b => D0 b || (o b).isSome) (orng x dx 0 fun _ => none) (co H') = vw D0 o (co (rm2 H' x dx)) := by
      rw [vw_call nx.2 nd.2]
      exact vw_nob (rm2_p hne') rm2_d fun b n1 n2 => (rm2_ne n1 n2).symm
    rw [view2] at rf
    have q := kk fs' S1 x dx ws' (rm2 H' x dx) hA (E1.xe le) (x1.trans (XE.of le)) (rm2_p hne') rm2_d hne' rf
    rw [ob_rm2 oa] at q
    exact q
  · have le : Le H1 H' := fun b u e => by
      have n1 : b ≠ x := ne_of_none e hx
      have n2 : b ≠ dx := ne_of_none e hdx
      exact bt b u n1 n2 (by rw [show upd (upd H1 dx (.own x)) x (.ins C dx []) = obHp H1 x dx C [] from rfl, he1 b n1 n2]; exact e)
    exact kx y S1 cls dd H' hy (E1.xe le) (x1.trans (XE.of le)) (by rw [a.mq]; exact ok)
/-- x = C(..) -/
def wNewOb (C : Addr) (i : Nat) (wb : WB) : WS := fun S P => wb S (fun fs S1 => ∀ a dx, P.nx (S1.set i (.ob a dx C fs))) P.ex
theorem ss_newOb {C : Addr} (i : Nat) {x : Str} {e : Expr} {p : Pos} {wb : WB} (a : At X W k) (he : SB X W C e wb) (hi : X.N[i]? = some x := by rfl) (hx : Loc X.env.scope x := by first | exact Or.inl rfl | exact Or.inr rfl) (hs : swapsWith e (some (.Name x p)) pos.line X.env = pure false := by rfl) (hf : X.fn x = true ∨ X.env.scope.names.lookup x = some .local := by first | exact .inl rfl | exact .inr rfl) :
    SS X W (.Assign [.Name x p] e pos) (wNewOb C i wb) := by
  obtain ⟨te, pe, se⟩ := he.ex
  refine ⟨_, ps_set a.nd hi hx pe hs hf, ?_⟩
  intro D0 S σ H o P D E hw g
  refine se D0 S σ H o _ P.ex _ E hw (fun fs S1 q dx ws H1 h1 E1 x1 hq hd hne rf => ?_) g.xw
  obtain ⟨E2, f2⟩ := E1.newOb (C := C) i hq hd hne rf
  exact g.nx _ _ _ _ (h1 q dx) E2 (x1.fr.trans f2)
/-- x, y = C(..), [..] -/
def wNewObL (C : Addr) (i j : Nat) (wb : WB) (wo : WLs) : WS := fun S P => wb S (fun fs S1 => wo S1 (fun ds c S2 => (c ∨ flats ds = true) ∧ ∀ a dx, P.nx ((S2.set i (.ob a dx C fs)).set j (.ol ds))) noX) P.ex
theorem ss_newObL {C : Addr} (i j : Nat) {x y : Str} {e1 e2 : Expr} {px py pt : Pos} {kt k2 pt2} {wb : WB} {wo : WLs} (a : At X W k) (h1 : SB X W C e1 wb) (h2 : SO X W e2 wo) (hi : X.N[i]? = some x := by rfl) (hj : X.N[j]? = some y := by rfl) (hij : i ≠ j := by decide)
    (hx : X.env.scope.names.lookup x = some .local := by rfl) (hy : X.env.scope.names.lookup y = some .local := by rfl)
    (hw : swappedStores [.Tuple [.Name x px, .Name y py] kt pt] (.Tuple [e1, e2] k2 pt2) X.env = pure (some [x, y]) := by rfl)
    (hs : swapsWithSole [.Tuple [.Name x px, .Name y py] kt pt] (.Tuple [e1, e2] k2 pt2) pos.line X.env = pure false := by rfl)
    (hst : starEach [e1, e2] X.env = (false, eval e1 X.env) :: starEach [e2] X.env := by rfl) (hst2 : starEach [e2] X.env = (false, eval e2 X.env) :: starEach [] X.env := by rfl) :
    SS X W (.Assign [.Tuple [.Name x px, .Name y py] kt pt] (.Tuple [e1, e2] k2 pt2) pos) (wNewObL C i j wb wo) := by
  obtain ⟨t1, p1, s1⟩ := h1.ex
  obtain ⟨t2, p2, s2⟩ := h2.ex
  refine ⟨_, ps_par a.calm a.nd hi hj hij hx hy (pa_cons p1 (pa_cons p2 pa_nil hst2) hst) hw hs, ?_⟩
  intro D0 S σ H o P D E hw g
  refine s1 D0 S σ H o _ P.ex _ E hw (fun fs S1 q dx ws H1 h1 E1 x1 hq hd hne rf => ?_) g.xw
  have nq := E1.new hq
  have nd := E1.new hd
  have e1 : rm (upd H1 dx (.own q)) dx = H1 := by rw [rm_upd, rm_none hd]
  have Ea : Env (plus D0 dx) S1 σ (upd H1 dx (.own q)) o := Env.hide (by rw [e1]; exact E1) upd_same rfl
  have hq' : upd H1 dx (.own q) q = none := by rw [upd_ne hne]; exact hq
  have e2 : rm (obHp H1 q dx C ws) q = upd H1 dx (.own q) := by unfold obHp; rw [rm_upd, rm_none hq']
  have Eb : Env (plus (plus D0 dx) q) S1 σ (obHp H1 q dx C ws) o := Env.hide (by rw [e2]; exact Ea) upd_same rfl
  refine s2 (plus (plus D0 dx) q) S1 σ _ o _ noX _ Eb h1 (fun ds c S2 vs l H2 h2 E2 x2 hl V2 => ?_) (fun _ _ _ _ _ h => h.elim)
  obtain ⟨hc, h2⟩ := h2
  have oq : H2 q = some (.ins C dx ws) := x2 q _ (by rw [nq.2]; rfl) upd_same
  have od : H2 dx = some (.own q) := x2 dx _ (by rw [nd.2]; rfl) (obAt_hp hne).d
  have ob : ObAt H2 q dx C ws := ⟨hne, oq, od⟩
  have pq : plus D0 dx q = false := by rw [plus_ne hne]; exact nq.1
  have Ec : Env D0 S2 σ (rm2 H2 q dx) o := Env.show_ nd.1 nd.2 (Env.show_ pq nq.2 E2)
  have lr : rm2 H2 q dx l = none := by
    have n1 : l ≠ q := fun z => by rw [z, oq] at hl; cases hl
    have n2 : l ≠ dx := fun z => by rw [z, od] at hl; cases hl
    rw [rm2_ne n1 n2]; exact hl
  have xe : XE o H1 (rm2 H2 q dx) := fun b u hm e => by
    have n1 : b ≠ q := ne_of_none e hq
    have n2 : b ≠ dx := ne_of_none e hd
    rw [rm2_ne n1 n2]
    exact x2 b u hm (by rw [obHp_ne n1 n2]; exact e)
  have E3 := Ec.newOb (C := C) i (rm2_p hne) rm2_d hne (rf.mono xe.vw)
  obtain ⟨E3, f3⟩ := E3
  rw [show upd (upd (rm2 H2 q dx) dx (.own q)) q (.ins C dx ws) = obHp (rm2 H2 q dx) q dx C ws from rfl, ob_rm2 ob] at E3 f3
  have rv := V2.clean E2 hc
  rw [vw_plus, vw_plus] at rv
  have rv' : RpAll (vw D0 (orng q dx i o) (co H2)) vs ds := by
    rw [vw_nob (H := rm2 H2 q dx) (rm2_p hne) rm2_d fun b n1 n2 => (rm2_ne n1 n2).symm]
    exact rv
  have E4 := E3.own j hl rv'
  exact ⟨_, _, rfl, g.nx _ _ _ _ (h2 q dx) E4 (((x1.fr.trans xe.fr).trans f3).trans (fr_own (D0 := D0) (S := S2) (σ := σ) hl))⟩
/-! ### a method that hands back a new object of the class; its own object stays as it is -/
def spOfC (C : Addr) (sp : Fs → (Fs → Prop) → Prop) : Sp := fun vs H Q _ => ∃ (a dx : Addr) (ws : List (Str × V)) (fs : Fs) (D0 : Addr → Bool) (A : Fs → Prop), vs = [.ref a] ∧ ObAt H a dx C ws ∧ D0 a = false ∧ D0 dx = false ∧ (∀ b, D0 b = true → ∃ u, co H b = some u ∧ isTup u = false) ∧
  RpF (vw D0 (orng a dx 0 fun _ => none) (co H)) ws fs ∧ sp fs A ∧ ∀ fs' p px ws' ws2 H', A fs' → H p = none → H px = none → p ≠ px → But a dx H H' → ObAt H' a dx C ws2 → RpF (vw D0 (orng a dx 0 fun _ => none) (co (rm2 H' p px))) ws2 fs → ObAt H' p px C ws' → RpF (vw D0 (orng a dx 0 fun _ => none) (co (rm2 H' p px))) ws' fs' → Q (.ref p) H'
def wMethC (C : Addr) (i : Nat) (m : Str) (sp : Fs → (Fs → Prop) → Prop) : WB := fun S A _ => match S[i]? with
  | some (.ob _ _ C' fs) => C' = C ∧ fs.lookup m = none ∧ sp fs fun fs' => A fs' S
  | _ => False
theorem sb_meth {C : Addr} {j : Nat} (i : Nat) {sp : Fs → (Fs → Prop) → Prop} {x m : Str} {p apos : Pos} (a : At X W k) (c : Cls X.K C) (F : MDef X.prog X.w X.K X.mg X.base j C m 1 (spOfC C sp)) (hj : j ≤ k)
    (hN : X.N[i]? = some x := by rfl) (hv : Vis X.env.scope x := by first | exact Or.inl rfl | exact Or.inr (Or.inl rfl) | exact Or.inr (Or.inr rfl)) (hd : (x == ("__debug__" : Str)) = false := by decide) (hcd : (x == ("__classdict__" : Str)) = false := by decide) {pl : Sem Bool}
    (ht : eval (.Call (.Attribute (.Name x p) m apos) [] [] pos) X.env = (do
      let ov ← eval (.Name x p) X.env
      standAt apos.atName
      let (f, first) ← holding [ov] (getMethod ov m pl)
      callWith pos f first (backTo pos (starEach [] X.env)) (backToKw pos (keywordEach [] X.env))) := by rfl) :
    SB X W C (.Call (.Attribute (.Name x p) m apos) [] [] pos) (wMethC C i m sp) := by
  obtain ⟨f, fd, ps, G, hm, hb, hps⟩ := F.ex
  refine ⟨_, pe_methW0 (pl := pl) (pe_var hN hv hd hcd) c hm G (a.room.mono hj) hb a.tk ht, ?_⟩
  intro D0 S σ H o A B Q E hw kk kx
  unfold wMethC at hw
  split at hw
  · rename_i oa dx C' fs hs
    obtain ⟨rfl, hl0, hsp⟩ := hw
    obtain ⟨ws, q1, q2, q3, ob, rf⟩ := E.obAt hs
    have hn : ws.lookup m = none := by
      have := (rf.look m).1
      rw [hl0] at this
      cases e : ws.lookup m with
      | none => rfl
      | some _ => rw [e] at this; cases this
    refine ⟨.ref oa, q1, oa, dx, ws, rfl, ob.i, hn, ?_⟩
    refine ⟨oa, dx, ws, fs, fun b => (D0 b || (o b).isSome) && !decide (b = oa) && !decide (b = dx), _, rfl, ob, by simp, by simp, fun b hb => E.deadV b (by simp at hb; simpa using hb.1.1), by rw [vw_borrow q2 q3]; exact rf, hsp, fun fs' np nx ws' ws2 H' hA hp hx hne bt oa' r2 on rn => ?_⟩
    rw [vw_borrow q2 q3] at r2 rn
    have pa : oa ≠ np := fun z => by rw [← z, ob.i] at hp; cases hp
    have pd : dx ≠ np := fun z => by rw [← z, ob.d] at hp; cases hp
    have xa : oa ≠ nx := fun z => by rw [← z, ob.i] at hx; cases hx
    have xd : dx ≠ nx := fun z => by rw [← z, ob.d] at hx; cases hx
    have bt' : But oa dx H (rm2 H' np nx) := fun b u n1 n2 e => by
      rw [rm2_ne (ne_of_none e hp) (ne_of_none e hx)]
      exact bt b u n1 n2 e
    have oa2 : ObAt (rm2 H' np nx) oa dx C' ws2 := ⟨oa'.ne, by rw [rm2_ne pa xa]; exact oa'.i, by rw [rm2_ne pd xd]; exact oa'.d⟩
    obtain ⟨E2, x2⟩ := E.obj hs bt' oa2 r2
    have eS : S.set i (.ob oa dx C' fs) = S := by
      obtain ⟨h1, h2⟩ := List.getElem?_eq_some_iff.mp hs
      rw [← h2]
      exact List.set_getElem_self h1
    rw [eS] at E2
    have q := kk fs' S np nx ws' (rm2 H' np nx) hA E2 x2 (rm2_p hne) rm2_d hne rn
    rw [ob_rm2 on] at q
    exact q
  · exact hw.elim
/-- statements, the last of them with the reading tl -/
structure SSe (X : Cx) (W : WM) (st : List Stmt) (w : WS) (tl : TS) : Prop where
  ex : ∃ t, PSs X st t ∧ ∀ (D0 : Addr → Bool) (S : Slots) (σ : St) (H : Hp) (o : Ow) (P : En) (D : Ends), Env D0 S σ H o → w S P → Goes W D0 o H P { D with nx := tl D } → t D σ H
theorem sse_one {st : Stmt} {tl : TS} (h : PS X st tl) : SSe X W [st] wSkip tl := ⟨_, pss_one h, fun D0 S σ H o P D E hw g => g.nx S σ H o hw E (Fr.refl _ _)⟩
theorem sse_cons {st : Stmt} {rest : List Stmt} {w1 w2 : WS} {tl : TS} (h1 : SS X W st w1) (h2 : SSe X W rest w2 tl) : SSe X W (st :: rest) (wSeq w1 w2) tl := by
  obtain ⟨t1, p1, s1⟩ := h1.ex
  obtain ⟨t2, p2, s2⟩ := h2.ex
  refine ⟨_, pss_cons p1 p2, ?_⟩
  intro D0 S σ H o P D E hw g
  refine s1 D0 S σ H o _ _ E hw ⟨fun S' σ' H' o' h E' f => ?_, g.bk, g.ct, g.rt, g.ex⟩
  exact s2 D0 S' σ' H' o' P D E' h (g.on f)
end
section
variable {P : Program} {w : World} {K : PySem.W.Frag} {mg : Str → Option Value} {base : Heap}
/-- THE RULE for a method that makes a new object, in slot j, and hands it back -/
theorem def_okC {C : Addr} {x q : Str} {st : Stmt} {f : Addr} {fd : FuncData} {N : List Str} {k : Nat} (j : Nat) {sp : Fs → (Fs → Prop) → Prop} (F : Fun K x q st f fd) (S : FnScope N ["self"] (defScope st)) (hN : 1 ≤ N.length)
    (hb : ∀ (cdv : Value) (A : Around) (outer : List PySem.Env) (s : Shared) (H : Hp) (E : XK), At (cxOf (L2.CX P w) P w K mg base N q (defScope st) f cdv A outer s H E) ⟨mg, fun cls d _ H' => E cls d H'⟩ k →
      ∃ wb, SSe (cxOf (L2.CX P w) P w K mg base N q (defScope st) f cdv A outer s H E) ⟨mg, fun cls d _ H' => E cls d H'⟩ (defBody st) wb (tRet (tVar j)) ∧
        ∀ fs A a dx, sp fs A → wb (.ob a dx C fs :: List.replicate (N.length - 1) .un) ⟨fun S => S[0]? = some (.ob a dx C fs) ∧ ∃ p px fs', S[j]? = some (.ob p px C fs') ∧ j ≠ 0 ∧ A fs', fun _ _ _ => False, fun _ => False, fun _ => False, fun _ _ => False⟩) :
    FnOk P w K mg base (L2.CX P w) (k + 1) f fd ["self"] (spOfC C sp) := by
  refine F.okX S (fun vs H Q E h => by obtain ⟨a, dx, ws, fs, D0, A, rfl, _⟩ := h; rfl) (fun cdv A outer s H vs Q E hr h => ?_)
  obtain ⟨a, dx, ws, fs, D0, A', rfl, ob, d1, d2, hd, rf, hsp, hA⟩ := h
  have at_ : At (cxOf (L2.CX P w) P w K mg base N q (defScope st) f cdv A outer s H E) ⟨mg, fun cls d _ H' => E cls d H'⟩ k := ⟨hr, rfl, takes_of rfl rfl rfl rfl, rfl, S.nd, passes_of rfl⟩
  obtain ⟨wb, hp, hw⟩ := hb cdv A outer s H E at_
  obtain ⟨t, pt, st'⟩ := hp.ex
  refine ⟨t, pt, ?_⟩
  have E0 := env_startO (N := N) (us := []) (ds := []) ob d1 d2 hd rf .nil hN
  have es : startS (N.length - 1) [] = List.replicate (N.length - 1) .un := by unfold startS; simp
  rw [es] at E0
  refine st' D0 _ _ H _ _ _ E0 (hw fs A' a dx hsp) ⟨fun S' σ' H' o' h E' f => ?_, fun _ _ _ _ h => h.elim, fun _ _ _ _ h => h.elim, fun _ _ _ _ _ _ _ h => h.elim, fun _ _ _ _ _ _ _ h => h.elim⟩
  obtain ⟨h0, p, px, fs', h1, hj, hAf⟩ := h
  obtain ⟨ws2, k1, k2, k3, k4, k5⟩ := E'.obAt h0
  obtain ⟨ws', l1, l2, l3, l4, l5⟩ := E'.obAt h1
  refine ⟨.ref p, l1, ?_⟩
  have fresh : ∀ c, o' c = some (j, true) → H c = none := fun c hc => by
    cases e : H c with
    | none => rfl
    | some u =>
      by_cases n1 : c = a
      · subst n1; rw [k2] at hc; cases hc; exact absurd rfl hj
      · by_cases n2 : c = dx
        · subst n2; rw [k3] at hc; cases hc; exact absurd rfl hj
        · have := (f c u (if_neg (fun z => z.elim n1 n2)) e).2
          rw [this] at hc
          cases hc
  have le : Le (vw D0 o' (co H')) (vw D0 (orng a dx 0 fun _ => none) (co (rm2 H' p px))) := fun b u e => by
    obtain ⟨hD, ho⟩ := vw_no e
    have n1 : b ≠ a := fun z => by rw [z, k2] at ho; cases ho
    have n2 : b ≠ dx := fun z => by rw [z, k3] at ho; cases ho
    have n3 : b ≠ p := fun z => by rw [z, l2] at ho; cases ho
    have n4 : b ≠ px := fun z => by rw [z, l3] at ho; cases ho
    refine vw_at hD (if_neg (fun z => z.elim n1 n2)) ?_
    rw [co_eq (rm2_ne n3 n4)]
    exact vw_le _ _ e
  exact hA fs' p px ws' ws2 H' hAf (fresh p l2) (fresh px l3) l4.ne (fun b u n1 n2 e => (f b u (if_neg (fun z => z.elim n1 n2)) e).1) k4 (k5.mono le) l4 (l5.mono le)
end
end Pu

namespace Pu
open PySem L2

/-! ### plain laws of the readings -/
theorem lc_ok {α : Type} {wg : WTg} {wt : WTx} {we : WEx} {c : Prop} {S : Slots} {K : List PyData → Prop → Prop} (enc : α → PyData) (p : α → Bool) (f : α → PyData) : ∀ (xs : List α) (acc : List PyData) (ca : Prop),
    (∀ x ∈ xs, ∀ (Yes : PyData → Prop → Prop) (No : Prop), (p x = true → Yes (f x) True) → (p x = false → No) →
      wg (enc x) c S fun S1 => wt S1 (fun b S2 => S2 = S1 ∧ if b = true then we S1 (fun e ce S3 => S3 = S1 ∧ Yes e ce) noX else No) noX) →
    acc.length + xs.length ≤ 1000000 → ca → (∀ c' : Prop, c' → K (acc ++ (xs.filter p).map f) c') → lcL wg wt we c S (xs.map enc) acc ca K
  | [], acc, ca, _, _, hc, hK => by
    have q := hK ca hc
    rw [List.filter_nil, List.map_nil, List.append_nil] at q
    exact q
  | x :: xs, acc, ca, h, hl, hc, hK => by
    show wg (enc x) c S fun S1 => wt S1 (fun b S2 => S2 = S1 ∧ if b = true then we S1 (fun e ce S3 => S3 = S1 ∧ acc.length < sizeLine ∧ lcL wg wt we c S (xs.map enc) (acc ++ [e]) (ca ∧ (ce ∨ flat e = true)) K) noX else lcL wg wt we c S (xs.map enc) acc ca K) noX
    rw [List.length_cons] at hl
    refine h x List.mem_cons_self (fun e ce => acc.length < sizeLine ∧ lcL wg wt we c S (xs.map enc) (acc ++ [e]) (ca ∧ (ce ∨ flat e = true)) K) _ (fun hp => ⟨by rw [sizeLine_eq]; omega, ?_⟩) fun hp => ?_
    · refine lc_ok enc p f xs _ _ (fun y hy => h y (List.mem_cons_of_mem _ hy)) (by rw [List.length_append]; show acc.length + 1 + xs.length ≤ _; omega) ⟨hc, .inl trivial⟩ fun c' hc' => ?_
      have q := hK c' hc'
      rw [List.filter_cons, if_pos hp, List.map_cons] at q
      rw [List.append_assoc]
      exact q
    · refine lc_ok enc p f xs _ _ (fun y hy => h y (List.mem_cons_of_mem _ hy)) (by omega) hc fun c' hc' => ?_
      have q := hK c' hc'
      rw [List.filter_cons, if_neg (by rw [hp]; exact Bool.false_ne_true)] at q
      exact q
theorem for_ok {α τ : Type} {wg : WTg} {wb : WS} {c : Prop} {P : En} (enc : α → PyData) (step : τ → α → τ) (Rel : τ → Slots → Prop) : ∀ (xs : List α) (s : τ) (S : Slots),
    (∀ x ∈ xs, ∀ s S, Rel s S → ∀ Nx : Slots → Prop, (∀ S', Rel (step s x) S' → Nx S') → wg (enc x) c S fun S1 => wb S1 { P with nx := Nx, ct := Nx, bk := P.nx }) →
    Rel s S → (∀ S', Rel (xs.foldl step s) S' → P.nx S') → forL wg wb c P (xs.map enc) S
  | [], s, S, _, hr, hn => hn S hr
  | x :: xs, s, S, h, hr, hn => by
    show wg (enc x) c S fun S1 => wb S1 { P with nx := forL wg wb c P (xs.map enc), ct := forL wg wb c P (xs.map enc), bk := P.nx }
    exact h x List.mem_cons_self s S hr _ fun S' hr' => for_ok enc step Rel xs (step s x) S' (fun y hy => h y (List.mem_cons_of_mem _ hy)) hr' hn
/-- a loop that may leave early: Inv holds of the items that are left -/
theorem for_inv {wg : WTg} {wb : WS} {c : Prop} {P : En} (Inv : List PyData → Slots → Prop) : ∀ (ds : List PyData) (S : Slots),
    (∀ d r S, Inv (d :: r) S → ∀ Nx : Slots → Prop, (∀ S', Inv r S' → Nx S') → wg d c S fun S1 => wb S1 { P with nx := Nx, ct := Nx, bk := P.nx }) →
    Inv ds S → (∀ S', Inv [] S' → P.nx S') → forL wg wb c P ds S
  | [], S, _, hr, hn => hn S hr
  | d :: r, S, h, hr, hn => h d r S hr _ fun S' hr' => for_inv Inv r S' h hr' hn
theorem wh_ok {τ : Type} {wt : WTx} {wb : WS} {P : En} (Rel : τ → Slots → Prop) (m : τ → Nat)
    (h : ∀ s S, Rel s S → ∀ (Nx : Slots → Prop), (∀ s' S', m s' < m s → Rel s' S' → Nx S') → wt S (fun b S1 => if b = true then wb S1 { P with nx := Nx, ct := Nx, bk := P.nx } else P.nx S1) P.ex) : ∀ (n : Nat) (s : τ) (S : Slots), m s < n → Rel s S → whL wt wb P n S
  | 0, s, S, hm, _ => absurd hm (Nat.not_lt_zero _)
  | n + 1, s, S, hm, hr => h s S hr (whL wt wb P n) fun s' S' hlt hr' => wh_ok Rel m h n s' S' (Nat.lt_of_lt_of_le hlt (Nat.le_of_lt_succ hm)) hr'
theorem rangeD_map (lo : Int) (n : Nat) : rangeD lo n = (List.range n).map fun (i : Nat) => PyData.int (lo + (i : Int)) := rfl
theorem rangeD0 (n : Nat) : rangeD 0 n = (List.range n).map fun (i : Nat) => PyData.int (i : Int) := by
  unfold rangeD
  refine List.map_congr_left fun i _ => ?_
  rw [Int.zero_add]

/-! ### the data of this program -/
abbrev eI (i : Int) : PyData := .int i
abbrev eN (i : Nat) : PyData := .int (i : Int)
def eH (h : List Int) : PyData := .tuple (h.map .int)
def eP (s : Nat × Nat) : PyData := .tuple [.int (s.1 : Int), .int (s.2 : Int)]
theorem flat_ints (l : List Int) : flats (l.map PyData.int) = true := flats_iff.mpr fun x hx => by
  obtain ⟨i, _, rfl⟩ := List.mem_map.mp hx
  rfl
theorem flat_eH (h : List Int) : flat (eH h) = true := by
  unfold eH
  rw [flat]
  exact flat_ints h
theorem flat_eP (s : Nat × Nat) : flat (eP s) = true := rfl
theorem canLay_ints : ∀ (l : List Int), PyData.canLayAll0 (l.map PyData.int) = true
  | [] => rfl
  | x :: r => by
    show PyData.canLayAll0 (.int x :: r.map PyData.int) = true
    rw [PyData.canLayAll0, canLay_ints r]
    rfl
theorem canLay_eH (h : List Int) : PyData.canLay0 (eH h) = true := by
  unfold eH
  rw [PyData.canLay0]
  exact canLay_ints h
theorem depth_eH (h : List Int) : (eH h).depth = 1 := by
  unfold eH
  rw [PyData.depth, PySem.W.depth_ints]
theorem shaped_of {d : PyData} (h1 : d.canLay0 = true) (h2 : d.depth ≤ 64) : SeqAt.shaped d = true := by
  unfold SeqAt.shaped
  rw [h1, decide_eq_true h2]
  rfl
theorem shaped_int (i : Int) : SeqAt.shaped (.int i) = true := shaped_of (by simp [PyData.canLay0]) (by simp [PyData.depth])
theorem shaped_none : SeqAt.shaped .none = true := shaped_of (by simp [PyData.canLay0]) (by simp [PyData.depth])
theorem shaped_bool (b : Bool) : SeqAt.shaped (.bool b) = true := shaped_of (by simp [PyData.canLay0]) (by simp [PyData.depth])
theorem shaped_eH (h : List Int) : SeqAt.shaped (eH h) = true := shaped_of (canLay_eH h) (by rw [depth_eH]; omega)
theorem canLay_eP (s : Nat × Nat) : PyData.canLay0 (eP s) = true := by simp [eP, PyData.canLay0, PyData.canLayAll0]
theorem depth_eP (s : Nat × Nat) : (eP s).depth = 1 := by simp [eP, PyData.depth, PyData.depthAll]
theorem shaped_eP (s : Nat × Nat) : SeqAt.shaped (eP s) = true := shaped_of (canLay_eP s) (by rw [depth_eP]; omega)
theorem canLayAll_map {α : Type} {f : α → PyData} (h : ∀ x, (f x).canLay0 = true) : ∀ l : List α, PyData.canLayAll0 (l.map f) = true
  | [] => rfl
  | x :: r => by
    show PyData.canLayAll0 (f x :: r.map f) = true
    rw [PyData.canLayAll0, canLayAll_map h r, h x]
    rfl
theorem depthAll_map {α : Type} {f : α → PyData} {n : Nat} (h : ∀ x, (f x).depth ≤ n) : ∀ l : List α, PyData.depthAll (l.map f) ≤ n
  | [] => by show PyData.depthAll [] ≤ n; rw [PyData.depthAll]; omega
  | x :: r => by
    show PyData.depthAll (f x :: r.map f) ≤ n
    rw [PyData.depthAll]
    exact Nat.max_le.mpr ⟨h x, depthAll_map h r⟩
theorem shaped_list {α : Type} {f : α → PyData} {n : Nat} (h1 : ∀ x, (f x).canLay0 = true) (h2 : ∀ x, (f x).depth ≤ n) (hn : n ≤ 60) (l : List α) : SeqAt.shaped (.list (l.map f)) = true := by
  refine shaped_of ?_ ?_
  · rw [PyData.canLay0]
    exact canLayAll_map h1 l
  · rw [PyData.depth]
    have := depthAll_map h2 l
    omega
theorem flats_map {α : Type} {f : α → PyData} (h : ∀ x, flat (f x) = true) (l : List α) : flats (l.map f) = true := flats_iff.mpr fun x hx => by
  obtain ⟨i, _, rfl⟩ := List.mem_map.mp hx
  exact h i
/-! equality of data -/
theorem eqv_int (i j : Int) : PyData.eqv (.int i) (.int j) = decide (i = j) := by
  rw [PyData.eqv]
  exact Bool.beq_eq_decide_eq i j
theorem eqvAll_map {α : Type} {f : α → PyData} [DecidableEq α] (h : ∀ x y, PyData.eqv (f x) (f y) = decide (x = y)) : ∀ a b : List α, PyData.eqvAll (a.map f) (b.map f) = decide (a = b)
  | [], [] => by simp [PyData.eqvAll]
  | [], _ :: _ => by simp [PyData.eqvAll]
  | _ :: _, [] => by simp [PyData.eqvAll]
  | x :: a, y :: b => by
    show PyData.eqvAll (f x :: a.map f) (f y :: b.map f) = _
    rw [PyData.eqvAll, h x y, eqvAll_map h a b]
    by_cases e1 : x = y
    · by_cases e2 : a = b
      · simp [e1, e2]
      · simp [e1, e2]
    · simp [e1]
theorem eqv_eH (a b : List Int) : PyData.eqv (eH a) (eH b) = decide (a = b) := by
  unfold eH
  rw [PyData.eqv]
  exact eqvAll_map eqv_int a b
theorem eqv_list {α : Type} {f : α → PyData} [DecidableEq α] (h : ∀ x y, PyData.eqv (f x) (f y) = decide (x = y)) (a b : List α) : PyData.eqv (.list (a.map f)) (.list (b.map f)) = decide (a = b) := by
  rw [PyData.eqv]
  exact eqvAll_map h a b
theorem eqv_eP (a b : Nat × Nat) : PyData.eqv (eP a) (eP b) = decide (a = b) := by
  unfold eP
  simp only [PyData.eqv, PyData.eqvAll, Bool.and_true, Bool.beq_eq_decide_eq]
  obtain ⟨a1, a2⟩ := a
  obtain ⟨b1, b2⟩ := b
  by_cases e1 : a1 = b1
  · by_cases e2 : a2 = b2
    · simp [e1, e2]
    · have : ¬ (a2 : Int) = b2 := by omega
      simp [e1, e2, this]
  · have : ¬ (a1 : Int) = b1 := by omega
    simp [e1, this]
theorem any_map {α : Type} {f : α → PyData} [DecidableEq α] (h : ∀ x y, PyData.eqv (f x) (f y) = decide (x = y)) (x : α) : ∀ l : List α, ((l.map f).any fun z => PyData.eqv z (f x)) = decide (x ∈ l)
  | [] => by simp
  | y :: l => by
    show (PyData.eqv (f y) (f x) || ((l.map f).any fun z => PyData.eqv z (f x))) = _
    rw [h y x, any_map h x l]
    by_cases e : y = x
    · subst e
      simp
    · have e' : x ≠ y := fun z => e z.symm
      simp [e, e']
/-! places -/
theorem atD_int {h : List Int} {i : Nat} (hi : i < h.length) : atD (h.map PyData.int) (i : Int) = some (.int (h.getD i 0)) := by
  unfold atD ixN
  rw [List.length_map, if_pos (by omega), if_pos (by omega)]
  show (h.map PyData.int)[(i : Int).toNat]? = _
  rw [Int.toNat_natCast, List.getElem?_map, List.getElem?_eq_getElem hi, List.getD_eq_getElem?_getD, List.getElem?_eq_getElem hi]
  rfl
theorem atD_map {α : Type} {f : α → PyData} {l : List α} {i : Nat} {x : α} (h : l[i]? = some x) : atD (l.map f) (i : Int) = some (f x) := by
  have hi := (List.getElem?_eq_some_iff.mp h).1
  unfold atD ixN
  rw [List.length_map, if_pos (by omega), if_pos (by omega)]
  show (l.map f)[(i : Int).toNat]? = _
  rw [Int.toNat_natCast, List.getElem?_map, h]
  rfl
theorem ixN_nat {n i : Nat} (h : i < n) : ixN n (i : Int) = some i := by
  unfold ixN
  rw [if_pos (by omega), if_pos (by omega), Int.toNat_natCast]
theorem seq_cut {w1 w2 : WS} {S : Slots} {P : En} (Rel : Slots → Prop) (h1 : ∀ Nx : Slots → Prop, (∀ S, Rel S → Nx S) → w1 S { P with nx := Nx }) (h2 : ∀ S, Rel S → w2 S P) : wSeq w1 w2 S P := h1 _ h2
end Pu

namespace Pu
open PySem L2
def Pure (n m : Nat) (sp : Spc) (w : WS) : Prop := ∀ (ds : List PyData) (A : PyData → Prop) (B : XC → Prop), ds.length = m → sp ds A B → w (startS n ds) ⟨fun _ => A .none, fun d _ _ => A d, fun _ => False, fun _ => False, fun x _ => B x⟩
def PureR (n m : Nat) (sp : Spc) (w : WS) : Prop := ∀ (ds : List PyData) (A : PyData → Prop) (B : XC → Prop) (a c : Addr), ds.length = m → sp ds A B →
  w (.rng a c :: startS n ds) ⟨fun S => S[0]? = some (.rng a c) ∧ A .none, fun d _ S => S[0]? = some (.rng a c) ∧ A d, fun _ => False, fun _ => False, fun x S => S[0]? = some (.rng a c) ∧ B x⟩
/-! ### what the defs of steps.py promise -/
def isInt : PyData → Bool
  | .int _ => true
  | _ => false
def sp_is_integer : Spc := fun ds A _ => ∃ d, ds = [d] ∧ typD d ≠ "dict" ∧ A (.bool (isInt d))
theorem sp_is_integer_eq {d : PyData} {A : PyData → Prop} {B : XC → Prop} : sp_is_integer [d] A B ↔ typD d ≠ "dict" ∧ A (.bool (isInt d)) :=
  ⟨fun ⟨_, h, h1, h2⟩ => by cases h; exact ⟨h1, h2⟩, fun ⟨h1, h2⟩ => ⟨_, rfl, h1, h2⟩⟩

def w_is_integer : WS :=
    (wRet (wAnd (wIsi "int" (wV 0)) (wNot (wIsi "bool" (wV 0)))))
theorem pure_is_integer : Pure 1 1 sp_is_integer w_is_integer := by
  rintro ds A B - ⟨d, rfl, h1, h2⟩
  cases d <;> simp_all [w_is_integer, startS, bl?, g2, gAdd, gDiv, gEq, gGe, gGt, gI, gIn, gInt, gIs, gIsNot, gLe, gLen, gList, gLt, gMM, gMod, gMul, gMulS, gNe, gNotIn, gPow, gSorted, gSub, gIadd, gSum, gTuple, puts, sV, sVs, slotM, wAnd, wApp, wAsg, wAug, wAugI, wB, wC, wCall, wCallR, wChain, wCons, wDraw, wDrop, wEnL, wEnT, wExt, wFn, wFnO, wFor, wGCons, wGNil, wGT, wIL, wIT, wIdx, wIf, wIfS, wIsi, wIx, wLc, wLst, wMNil, wMO, wMV, wMix, wN, wNeg, wNil, wNot, wNotT, wO, wOp, wOr, wOwn, wPar, wR1, wR2, wRaise, wRaiseF, wRet, wSeq, wSet, wSetI, wSkip, wTAnd, wTNot, wTOr, wTru, wTry, wTryF, wTup, wV, wYes, wSplit, wJoin, wRstrip, wFmt, wJNil, wJCons, wJs, gStr, gIntS, wIS, gSignNotIn, wSl, wSlt, wPn, wPs, gMulT, wGL, wTryAs, wXf, wXis, wCat, wCatV, wIxV, typD, isTb, isInt]
def inR (d : PyData) (lo hi : Int) : Bool := match d with
  | .int i => decide (lo ≤ i) && decide (i ≤ hi)
  | _ => false
def sp_is_from : Spc := fun ds A _ => ∃ d lo hi, ds = [d, .int lo, .int hi] ∧ typD d ≠ "dict" ∧ A (.bool (inR d lo hi))
theorem sp_is_from_eq {d : PyData} {lo hi : Int} {A : PyData → Prop} {B : XC → Prop} : sp_is_from [d, .int lo, .int hi] A B ↔ typD d ≠ "dict" ∧ A (.bool (inR d lo hi)) :=
  ⟨fun ⟨_, _, _, h, h1, h2⟩ => by cases h; exact ⟨h1, h2⟩, fun ⟨h1, h2⟩ => ⟨_, _, _, rfl, h1, h2⟩⟩

def w_is_from : WS :=
    (wRet (wAnd (wCall sp_is_integer (wCons (wV 0) wNil)) (wChain gLe gLe (wV 1) (wV 0) (wV 2))))
theorem pure_is_from : Pure 3 3 sp_is_from w_is_from := by
  rintro ds A B - ⟨d, lo, hi, rfl, h1, h2⟩
  cases d <;> simp_all [w_is_from, startS, bl?, g2, gAdd, gDiv, gEq, gGe, gGt, gI, gIn, gInt, gIs, gIsNot, gLe, gLen, gList, gLt, gMM, gMod, gMul, gMulS, gNe, gNotIn, gPow, gSorted, gSub, gIadd, gSum, gTuple, puts, sV, sVs, slotM, wAnd, wApp, wAsg, wAug, wAugI, wB, wC, wCall, wCallR, wChain, wCons, wDraw, wDrop, wEnL, wEnT, wExt, wFn, wFnO, wFor, wGCons, wGNil, wGT, wIL, wIT, wIdx, wIf, wIfS, wIsi, wIx, wLc, wLst, wMNil, wMO, wMV, wMix, wN, wNeg, wNil, wNot, wNotT, wO, wOp, wOr, wOwn, wPar, wR1, wR2, wRaise, wRaiseF, wRet, wSeq, wSet, wSetI, wSkip, wTAnd, wTNot, wTOr, wTru, wTry, wTryF, wTup, wV, wYes, wSplit, wJoin, wRstrip, wFmt, wJNil, wJCons, wJs, gStr, gIntS, wIS, gSignNotIn, wSl, wSlt, wPn, wPs, gMulT, wGL, wTryAs, wXf, wXis, wCat, wCatV, wIxV, sp_is_integer, typD, isInt, inR]
  rename_i i
  by_cases c1 : lo ≤ i
  · simpa [c1] using h2
  · simpa [c1] using h2
/-- the items of a tuple are no dicts -/
def plainD (d : PyData) : Prop := typD d ≠ "dict" ∧ ∀ xs, d = .tuple xs → ∀ x ∈ xs, typD x ≠ "dict"
abbrev big : Int := 1000000000000000000000000000000
def isHeapsD : PyData → Bool
  | .tuple xs => decide (2 ≤ xs.length) && decide (xs.length ≤ 6) && xs.all (fun x => inR x 0 big) && xs.any (fun x => match x with
    | .int i => decide (i ≠ 0)
    | _ => false)
  | _ => false
def sp_check_heaps : Spc := fun ds A B => ∃ d, ds = [d] ∧ plainD d ∧ (isHeapsD d = true → A .none) ∧ (isHeapsD d = false → B ("BadHeaps", []))

def w_check_heaps : WS :=
    (wSeq (wIfS (wTOr (wTNot (wB (wIsi "tuple" (wV 0)))) (wTNot (wB (wChain gLe gLe (wC (.int 2)) (wFn gLen (wCons (wV 0) wNil)) (wC (.int 6)))))) (wRaise "BadHeaps") wSkip)
    (wSeq (wFor (wIT (wV 0)) (wN 1) (wIfS (wTNot (wB (wCall sp_is_from (wCons (wV 1) (wCons (wC (.int 0)) (wCons (wC (.int 1000000000000000000000000000000)) wNil)))))) (wRaise "BadHeaps") wSkip))
    (wIfS (wB (wOp gEq (wFn (gMM max) (wCons (wV 0) wNil)) (wC (.int 0)))) (wRaise "BadHeaps") wSkip)))
theorem all_ints : ∀ {xs : List PyData}, xs.all (fun x => inR x 0 big) = true → ∃ ns : List Int, xs = ns.map .int ∧ ∀ n ∈ ns, 0 ≤ n ∧ n ≤ big
  | [], _ => ⟨[], rfl, fun n h => by cases h⟩
  | x :: r, h => by
    rw [List.all_cons, Bool.and_eq_true] at h
    obtain ⟨ns, rfl, hn⟩ := all_ints h.2
    cases x with
    | int i =>
      have h1 := h.1
      simp only [inR, Bool.and_eq_true, decide_eq_true_eq] at h1
      exact ⟨i :: ns, rfl, fun n hm => by
        rcases List.mem_cons.mp hm with z | z
        · rw [z]; exact h1
        · exact hn n z⟩
    | _ => exact absurd h.1 (by simp [inR])
theorem fold_max_ge : ∀ (ns : List Int) (n : Int), n ≤ ns.foldl max n ∧ ∀ x ∈ ns, x ≤ ns.foldl max n
  | [], n => ⟨Int.le_refl _, fun x h => by cases h⟩
  | y :: r, n => by
    obtain ⟨h1, h2⟩ := fold_max_ge r (max n y)
    refine ⟨Int.le_trans (Int.le_max_left n y) h1, fun x h => ?_⟩
    rcases List.mem_cons.mp h with z | z
    · rw [z]; exact Int.le_trans (Int.le_max_right n y) h1
    · exact h2 x z
theorem fold_max_in : ∀ (ns : List Int) (n : Int), ns.foldl max n = n ∨ ns.foldl max n ∈ ns
  | [], n => .inl rfl
  | y :: r, n => by
    rcases fold_max_in r (max n y) with h | h
    · show r.foldl max (max n y) = n ∨ r.foldl max (max n y) ∈ y :: r
      rw [h]
      by_cases c : n ≤ y
      · right; rw [Int.max_eq_right c]; exact List.mem_cons_self
      · left; exact Int.max_eq_left (by omega)
    · right; exact List.mem_cons_of_mem _ h
theorem any_ints (ns : List Int) : ((ns.map PyData.int).any fun x => match x with
    | .int i => decide (i ≠ 0)
    | _ => false) = ns.any fun i => decide (i ≠ 0) := by
  rw [List.any_map]
  rfl
theorem pure_check_heaps : Pure 2 1 sp_check_heaps w_check_heaps := by
  rintro ds A B - ⟨d, rfl, ⟨hp, hq⟩, h1, h2⟩
  cases d with
  | tuple xs =>
    simp only [w_check_heaps, startS, bl?, g2, gAdd, gDiv, gEq, gGe, gGt, gI, gIn, gInt, gIs, gIsNot, gLe, gLen, gList, gLt, gMM, gMod, gMul, gMulS, gNe, gNotIn, gPow, gSorted, gSub, gIadd, gSum, gTuple, puts, sV, sVs, slotM, wAnd, wApp, wAsg, wAug, wAugI, wB, wC, wCall, wCallR, wChain, wCons, wDraw, wDrop, wEnL, wEnT, wExt, wFn, wFnO, wFor, wGCons, wGNil, wGT, wIL, wIT, wIdx, wIf, wIfS, wIsi, wIx, wLc, wLst, wMNil, wMO, wMV, wMix, wN, wNeg, wNil, wNot, wNotT, wO, wOp, wOr, wOwn, wPar, wR1, wR2, wRaise, wRaiseF, wRet, wSeq, wSet, wSetI, wSkip, wTAnd, wTNot, wTOr, wTru, wTry, wTryF, wTup, wV, wYes, wSplit, wJoin, wRstrip, wFmt, wJNil, wJCons, wJs, gStr, gIntS, wIS, gSignNotIn, wSl, wSlt, wPn, wPs, gMulT, wGL, wTryAs, wXf, wXis, wCat, wCatV, wIxV, typD, isTb]
    simp
    by_cases c1 : 2 ≤ xs.length
    · by_cases c2 : xs.length ≤ 6
      · rw [if_pos (by omega), if_neg (by omega)]
        cases hall : xs.all (fun x => inR x 0 big) with
        | true =>
          obtain ⟨ns, rfl, hn⟩ := all_ints hall
          refine for_inv (fun r S => (∃ s, S = [.im (.tuple (ns.map .int)), s]) ∧ ∀ x ∈ r, x ∈ ns.map PyData.int) _ _ (fun d r S ⟨⟨s, es⟩, hr⟩ Nx hN => ?_) ⟨⟨_, rfl⟩, fun x h => h⟩ fun S ⟨⟨s, es⟩, _⟩ => ?_
          · subst es
            obtain ⟨n, hm, rfl⟩ := List.mem_map.mp (hr _ List.mem_cons_self)
            obtain ⟨b1, b2⟩ := hn n hm
            have hi : inR (.int n) 0 big = true := by simp only [inR, decide_eq_true b1, decide_eq_true b2]; rfl
            simp only [bl?, g2, gAdd, gDiv, gEq, gGe, gGt, gI, gIn, gInt, gIs, gIsNot, gLe, gLen, gList, gLt, gMM, gMod, gMul, gMulS, gNe, gNotIn, gPow, gSorted, gSub, gIadd, gSum, gTuple, puts, sV, sVs, slotM, wAnd, wApp, wAsg, wAug, wAugI, wB, wC, wCall, wCallR, wChain, wCons, wDraw, wDrop, wEnL, wEnT, wExt, wFn, wFnO, wFor, wGCons, wGNil, wGT, wIL, wIT, wIdx, wIf, wIfS, wIsi, wIx, wLc, wLst, wMNil, wMO, wMV, wMix, wN, wNeg, wNil, wNot, wNotT, wO, wOp, wOr, wOwn, wPar, wR1, wR2, wRaise, wRaiseF, wRet, wSeq, wSet, wSetI, wSkip, wTAnd, wTNot, wTOr, wTru, wTry, wTryF, wTup, wV, wYes, wSplit, wJoin, wRstrip, wFmt, wJNil, wJCons, wJs, gStr, gIntS, wIS, gSignNotIn, wSl, wSlt, wPn, wPs, gMulT, wGL, wTryAs, wXf, wXis, wCat, wCatV, wIxV, sp_is_from_eq]
            simp [typD, hi, flat]
            exact hN _ ⟨⟨_, rfl⟩, fun x hx => hr x (List.mem_cons_of_mem _ hx)⟩
          · subst es
            cases ns with
            | nil => simp at c1
            | cons n ns =>
              obtain ⟨g1, g2⟩ := fold_max_ge ns n
              have hz : ∀ x ∈ n :: ns, x ≤ ns.foldl max n := fun x hx => by
                rcases List.mem_cons.mp hx with z | z
                · rw [z]; exact g1
                · exact g2 x z
              simp
              refine ⟨n, ns, ints?_map (n :: ns), shaped_int _, shaped_int _, ?_⟩
              rw [eqv_int]
              have lx : (decide (2 ≤ ((n :: ns).map PyData.int).length) && decide (((n :: ns).map PyData.int).length ≤ 6)) = true := by
                rw [decide_eq_true c1, decide_eq_true c2]; rfl
              by_cases c3 : ns.foldl max n = 0
              · rw [if_pos (decide_eq_true c3)]
                refine h2 ?_
                simp only [isHeapsD]
                rw [lx, hall, any_ints]
                simp only [Bool.true_and]
                rw [List.any_eq_false]
                intro x hx
                have q1 := hz x hx
                have q2 := (hn x hx).1
                simp
                omega
              · rw [if_neg (by simpa using c3)]
                refine h1 ?_
                simp only [isHeapsD]
                rw [lx, hall, any_ints]
                simp only [Bool.true_and]
                rw [List.any_eq_true]
                refine ⟨ns.foldl max n, ?_, by simpa using c3⟩
                rcases fold_max_in ns n with q | q
                · rw [q]; exact List.mem_cons_self
                · exact List.mem_cons_of_mem _ q
        | false =>
          have hB := h2 (by simp only [isHeapsD]; rw [hall]; simp)
          refine for_inv (fun r S => (∃ s, S = [.im (.tuple xs), s]) ∧ (∀ x ∈ r, x ∈ xs) ∧ r.all (fun x => inR x 0 big) = false) _ _ (fun d r S ⟨⟨s, es⟩, hr, ha⟩ Nx hN => ?_) ⟨⟨_, rfl⟩, fun x h => h, hall⟩ fun S ⟨_, _, z⟩ => by cases z
          subst es
          have hd := hq xs rfl d (hr _ List.mem_cons_self)
          simp only [bl?, g2, gAdd, gDiv, gEq, gGe, gGt, gI, gIn, gInt, gIs, gIsNot, gLe, gLen, gList, gLt, gMM, gMod, gMul, gMulS, gNe, gNotIn, gPow, gSorted, gSub, gIadd, gSum, gTuple, puts, sV, sVs, slotM, wAnd, wApp, wAsg, wAug, wAugI, wB, wC, wCall, wCallR, wChain, wCons, wDraw, wDrop, wEnL, wEnT, wExt, wFn, wFnO, wFor, wGCons, wGNil, wGT, wIL, wIT, wIdx, wIf, wIfS, wIsi, wIx, wLc, wLst, wMNil, wMO, wMV, wMix, wN, wNeg, wNil, wNot, wNotT, wO, wOp, wOr, wOwn, wPar, wR1, wR2, wRaise, wRaiseF, wRet, wSeq, wSet, wSetI, wSkip, wTAnd, wTNot, wTOr, wTru, wTry, wTryF, wTup, wV, wYes, wSplit, wJoin, wRstrip, wFmt, wJNil, wJCons, wJs, gStr, gIntS, wIS, gSignNotIn, wSl, wSlt, wPn, wPs, gMulT, wGL, wTryAs, wXf, wXis, wCat, wCatV, wIxV, sp_is_from_eq]
          cases hi : inR d 0 big with
          | true =>
            simp [hd, hi]
            refine hN _ ⟨⟨_, rfl⟩, fun x hx => hr x (List.mem_cons_of_mem _ hx), ?_⟩
            rw [List.all_cons, hi] at ha
            exact ha
          | false =>
            simp [hd, hi]
            exact hB
      · rw [if_pos (by omega), if_pos (by omega)]
        exact h2 (by simp only [isHeapsD, decide_eq_false c2]; simp)
    · rw [if_neg (by omega)]
      exact h2 (by simp only [isHeapsD, decide_eq_false c1]; simp)
  | _ => simp_all [w_check_heaps, startS, bl?, g2, gAdd, gDiv, gEq, gGe, gGt, gI, gIn, gInt, gIs, gIsNot, gLe, gLen, gList, gLt, gMM, gMod, gMul, gMulS, gNe, gNotIn, gPow, gSorted, gSub, gIadd, gSum, gTuple, puts, sV, sVs, slotM, wAnd, wApp, wAsg, wAug, wAugI, wB, wC, wCall, wCallR, wChain, wCons, wDraw, wDrop, wEnL, wEnT, wExt, wFn, wFnO, wFor, wGCons, wGNil, wGT, wIL, wIT, wIdx, wIf, wIfS, wIsi, wIx, wLc, wLst, wMNil, wMO, wMV, wMix, wN, wNeg, wNil, wNot, wNotT, wO, wOp, wOr, wOwn, wPar, wR1, wR2, wRaise, wRaiseF, wRet, wSeq, wSet, wSetI, wSkip, wTAnd, wTNot, wTOr, wTru, wTry, wTryF, wTup, wV, wYes, wSplit, wJoin, wRstrip, wFmt, wJNil, wJCons, wJs, gStr, gIntS, wIS, gSignNotIn, wSl, wSlt, wPn, wPs, gMulT, wGL, wTryAs, wXf, wXis, wCat, wCatV, wIxV, typD, isTb, isHeapsD]

/-! heaps as lists -/
structure OkH (h : List Int) : Prop where
  l2 : 2 ≤ h.length
  l6 : h.length ≤ 6
  rg : ∀ x ∈ h, 0 ≤ x ∧ x ≤ big
  nz : ∃ x ∈ h, x ≠ 0
theorem typ_eH (h : List Int) : typD (eH h) ≠ "dict" := by simp [eH, typD]
theorem plain_eH (h : List Int) : plainD (eH h) := ⟨typ_eH h, fun xs e x hx => by
  have e' : h.map PyData.int = xs := by simpa [eH] using e
  rw [← e'] at hx
  obtain ⟨i, _, rfl⟩ := List.mem_map.mp hx
  simp [typD]⟩
theorem heaps_ok {h : List Int} (o : OkH h) : isHeapsD (eH h) = true := by
  simp only [isHeapsD, eH, List.length_map, decide_eq_true o.l2, decide_eq_true o.l6, any_ints, Bool.and_true, Bool.true_and]
  rw [Bool.and_eq_true, List.all_eq_true, List.any_eq_true]
  refine ⟨fun x hx => ?_, ?_⟩
  · obtain ⟨i, hi, rfl⟩ := List.mem_map.mp hx
    obtain ⟨b1, b2⟩ := o.rg i hi
    simp only [inR, decide_eq_true b1, decide_eq_true b2]
    rfl
  · obtain ⟨x, hx, hn⟩ := o.nz
    exact ⟨x, hx, decide_eq_true hn⟩
theorem check_ok {h : List Int} (o : OkH h) {A : PyData → Prop} {B : XC → Prop} (hA : A .none) : sp_check_heaps [eH h] A B :=
  ⟨_, rfl, plain_eH h, fun _ => hA, fun z => by rw [heaps_ok o] at z; cases z⟩
/-- a step in range -/
def okS (n : Nat) (s : Nat × Nat) : Prop := s.1 < n ∧ s.2 < n ∧ s.1 ≠ s.2
def isStepD (d : PyData) (n : Int) : Bool := match d with
  | .tuple [x, y] => inR x 0 (n - 1) && inR y 0 (n - 1) && (match x, y with
    | .int i, .int j => decide (i ≠ j)
    | _, _ => false)
  | _ => false
theorem typ_tup {xs : List PyData} : typD (.tuple xs) = "tuple" := rfl
theorem isT_tt : isTb "tuple" "tuple" = true := by decide
def sp_is_step : Spc := fun ds A _ => ∃ d n, ds = [d, .int n] ∧ plainD d ∧ A (.bool (isStepD d n))
theorem sp_is_step_eq {d : PyData} {n : Int} {A : PyData → Prop} {B : XC → Prop} : sp_is_step [d, .int n] A B ↔ plainD d ∧ A (.bool (isStepD d n)) :=
  ⟨fun ⟨_, _, h, h1, h2⟩ => by cases h; exact ⟨h1, h2⟩, fun ⟨h1, h2⟩ => ⟨_, _, rfl, h1, h2⟩⟩

def w_is_step : WS :=
    (wSeq (wIfS (wTOr (wTNot (wB (wIsi "tuple" (wV 0)))) (wB (wOp gNe (wFn gLen (wCons (wV 0) wNil)) (wC (.int 2))))) (wRet (wC (.bool false))) wSkip)
    (wSeq (wIfS (wTOr (wTNot (wB (wCall sp_is_from (wCons (wIx (wV 0) (wC (.int 0))) (wCons (wC (.int 0)) (wCons (wOp gSub (wV 1) (wC (.int 1))) wNil)))))) (wTNot (wB (wCall sp_is_from (wCons (wIx (wV 0) (wC (.int 1))) (wCons (wC (.int 0)) (wCons (wOp gSub (wV 1) (wC (.int 1))) wNil))))))) (wRet (wC (.bool false))) wSkip)
    (wRet (wOp gNe (wIx (wV 0) (wC (.int 0))) (wIx (wV 0) (wC (.int 1)))))))
theorem pure_is_step : Pure 2 2 sp_is_step w_is_step := by
  rintro ds A B - ⟨d, n, rfl, ⟨hp, hq⟩, h⟩
  cases d with
  | tuple xs =>
    have hq := hq xs rfl
    simp only [w_is_step, bl?, g2, gAdd, gDiv, gEq, gGe, gGt, gI, gIn, gInt, gIs, gIsNot, gLe, gLen, gList, gLt, gMM, gMod, gMul, gMulS, gNe, gNotIn, gPow, gSorted, gSub, gIadd, gSum, gTuple, puts, sV, sVs, slotM, wAnd, wApp, wAsg, wAug, wAugI, wB, wC, wCall, wCallR, wChain, wCons, wDraw, wDrop, wEnL, wEnT, wExt, wFn, wFnO, wFor, wGCons, wGNil, wGT, wIL, wIT, wIdx, wIf, wIfS, wIsi, wIx, wLc, wLst, wMNil, wMO, wMV, wMix, wN, wNeg, wNil, wNot, wNotT, wO, wOp, wOr, wOwn, wPar, wR1, wR2, wRaise, wRaiseF, wRet, wSeq, wSet, wSetI, wSkip, wTAnd, wTNot, wTOr, wTru, wTry, wTryF, wTup, wV, wYes, wSplit, wJoin, wRstrip, wFmt, wJNil, wJCons, wJs, gStr, gIntS, wIS, gSignNotIn, wSl, wSlt, wPn, wPs, gMulT, wGL, wTryAs, wXf, wXis, wCat, wCatV, wIxV, startS, List.length_cons, List.length_nil, List.map_cons, List.map_nil, List.getElem?_cons_zero, List.getElem?_cons_succ, List.set_cons_zero, List.set_cons_succ, List.cons_append, List.nil_append, List.append_nil, List.replicate_succ, List.replicate_zero, Nat.reduceAdd, Nat.reduceSub, ↓reduceIte, Bool.false_eq_true, reduceCtorEq, true_and, and_true, true_or, or_true, false_or, or_false, Bool.not_true, Bool.not_false, Bool.true_and, Bool.false_and, Bool.and_true, decide_eq_true_eq, Bool.not_eq_eq_eq_not, exists_eq_left, exists_eq_left', Option.some.injEq, typ_tup, isT_tt, sp_is_from_eq]
    match xs, hq with
    | [], _ => simpa [shaped_int, eqv_int, isStepD] using h
    | [x], _ => simpa [shaped_int, eqv_int, isStepD] using h
    | [x, y], hq =>
      have hx := hq x (by simp)
      have hy := hq y (by simp)
      simp [shaped_int, eqv_int, atD, ixN, hx, hy]
      simp only [isStepD] at h
      cases c1 : inR x 0 (n - 1) with
      | false => rw [c1] at h; simpa using h
      | true =>
        cases c2 : inR y 0 (n - 1) with
        | false => rw [c1, c2] at h; simpa using h
        | true =>
          rw [c1, c2] at h
          cases x <;> simp [inR] at c1
          cases y <;> simp [inR] at c2
          simpa [shaped_int, eqv_int] using h
    | x :: y :: z :: r, _ =>
      have e : ¬ ((r.length : Int) + 1 + 1 + 1 = 2) := by omega
      simpa [shaped_int, eqv_int, isStepD, e] using h
  | _ => simp_all [w_is_step, startS, bl?, g2, gAdd, gDiv, gEq, gGe, gGt, gI, gIn, gInt, gIs, gIsNot, gLe, gLen, gList, gLt, gMM, gMod, gMul, gMulS, gNe, gNotIn, gPow, gSorted, gSub, gIadd, gSum, gTuple, puts, sV, sVs, slotM, wAnd, wApp, wAsg, wAug, wAugI, wB, wC, wCall, wCallR, wChain, wCons, wDraw, wDrop, wEnL, wEnT, wExt, wFn, wFnO, wFor, wGCons, wGNil, wGT, wIL, wIT, wIdx, wIf, wIfS, wIsi, wIx, wLc, wLst, wMNil, wMO, wMV, wMix, wN, wNeg, wNil, wNot, wNotT, wO, wOp, wOr, wOwn, wPar, wR1, wR2, wRaise, wRaiseF, wRet, wSeq, wSet, wSetI, wSkip, wTAnd, wTNot, wTOr, wTru, wTry, wTryF, wTup, wV, wYes, wSplit, wJoin, wRstrip, wFmt, wJNil, wJCons, wJs, gStr, gIntS, wIS, gSignNotIn, wSl, wSlt, wPn, wPs, gMulT, wGL, wTryAs, wXf, wXis, wCat, wCatV, wIxV, typD, isTb, isStepD]
theorem plain_eP (s : Nat × Nat) : plainD (eP s) := ⟨by simp [eP, typD], fun xs e x hx => by
  have e' : [PyData.int (s.1 : Int), .int (s.2 : Int)] = xs := by simpa [eP] using e
  rw [← e'] at hx
  simp at hx
  rcases hx with z | z <;> (rw [z]; simp [typD])⟩
theorem isStep_eP (s : Nat × Nat) (n : Nat) : isStepD (eP s) n = (decide (s.1 < n) && decide (s.2 < n) && decide (s.1 ≠ s.2)) := by
  unfold isStepD eP inR
  by_cases c1 : s.1 < n
  · by_cases c2 : s.2 < n
    · by_cases c3 : s.1 = s.2
      · have : (s.1 : Int) = s.2 := by omega
        simp [c1, c2, c3]
      · have : ¬ (s.1 : Int) = s.2 := by omega
        have q1 : (s.1 : Int) ≤ n - 1 := by omega
        have q2 : (s.2 : Int) ≤ n - 1 := by omega
        simp [c1, c2, c3, this, q1, q2]
    · have q2 : ¬ (s.2 : Int) ≤ n - 1 := by omega
      simp [c1, c2, q2]
  · have q2 : ¬ (s.1 : Int) ≤ n - 1 := by omega
    simp [c1, q2]
/-- can a step be made; the heaps behind it -/
def gt (h : List Int) (i : Nat) : Int := h.getD i 0
theorem at_gt {h : List Int} {i : Nat} (hi : i < h.length) : atD (h.map PyData.int) (i : Int) = some (.int (gt h i)) := atD_int hi
def can (h : List Int) (s : Nat × Nat) : Bool := decide (0 < gt h s.2) && decide (gt h s.2 ≤ gt h s.1)
def beh (h : List Int) (s : Nat × Nat) : List Int :=
  (h.set s.1 (gt h s.1 - gt h s.2)).set s.2 (gt (h.set s.1 (gt h s.1 - gt h s.2)) s.2 + gt h s.2)
def sp_can_be_made : Spc := fun ds A _ => ∃ h s, ds = [eH h, eP s] ∧ s.1 < h.length ∧ s.2 < h.length ∧ A (.bool (can h s))

def w_can_be_made : WS :=
    (wSeq (wAsg (wV 1) (wGT 2 (wGCons (wN 2) (wGCons (wN 3) wGNil))))
    (wRet (wChain gLt gLe (wC (.int 0)) (wIx (wV 0) (wV 3)) (wIx (wV 0) (wV 2)))))
theorem flat_int (i : Int) : flat (.int i) = true := rfl
theorem if_dec {c : Prop} [Decidable c] {A : Bool → Prop} {b : Bool} (h : A (decide c && b)) : if c then A b else A false := by
  by_cases k : c
  · rw [if_pos k]; rw [decide_eq_true k] at h; exact h
  · rw [if_neg k]; rw [decide_eq_false k] at h; exact h
theorem pure_can_be_made : Pure 4 2 sp_can_be_made w_can_be_made := by
  rintro ds A B - ⟨h, ⟨i, j⟩, rfl, hi, hj, hA⟩
  have hi : i < h.length := hi
  have hj : j < h.length := hj
  simp only [w_can_be_made, bl?, g2, gAdd, gDiv, gEq, gGe, gGt, gI, gIn, gInt, gIs, gIsNot, gLe, gLen, gList, gLt, gMM, gMod, gMul, gMulS, gNe, gNotIn, gPow, gSorted, gSub, gIadd, gSum, gTuple, puts, sV, sVs, slotM, wAnd, wApp, wAsg, wAug, wAugI, wB, wC, wCall, wCallR, wChain, wCons, wDraw, wDrop, wEnL, wEnT, wExt, wFn, wFnO, wFor, wGCons, wGNil, wGT, wIL, wIT, wIdx, wIf, wIfS, wIsi, wIx, wLc, wLst, wMNil, wMO, wMV, wMix, wN, wNeg, wNil, wNot, wNotT, wO, wOp, wOr, wOwn, wPar, wR1, wR2, wRaise, wRaiseF, wRet, wSeq, wSet, wSetI, wSkip, wTAnd, wTNot, wTOr, wTru, wTry, wTryF, wTup, wV, wYes, wSplit, wJoin, wRstrip, wFmt, wJNil, wJCons, wJs, gStr, gIntS, wIS, gSignNotIn, wSl, wSlt, wPn, wPs, gMulT, wGL, wTryAs, wXf, wXis, wCat, wCatV, wIxV, startS, List.length_cons, List.length_nil, List.map_cons, List.map_nil, List.getElem?_cons_zero, List.getElem?_cons_succ, List.set_cons_zero, List.set_cons_succ, List.cons_append, List.nil_append, List.append_nil, List.replicate_succ, List.replicate_zero, Nat.reduceAdd, Nat.reduceSub, ↓reduceIte, Bool.false_eq_true, reduceCtorEq, true_and, and_true, true_or, or_true, false_or, or_false, Bool.not_true, Bool.not_false, Bool.true_and, Bool.false_and, Bool.and_true, decide_eq_true_eq, Bool.not_eq_eq_eq_not, exists_eq_left, exists_eq_left', Option.some.injEq, eH, eP, at_gt hi, at_gt hj, flat_int]
  exact if_dec (A := fun b => A (.bool b)) hA
def sp_behind : Spc := fun ds A _ => ∃ h s, ds = [eH h, eP s] ∧ s.1 < h.length ∧ s.2 < h.length ∧ A (eH (beh h s))

def w_behind : WS :=
    (wSeq (wAsg (wV 1) (wGT 2 (wGCons (wN 2) (wGCons (wN 3) wGNil))))
    (wSeq (wOwn 4 (wFnO gList (wCons (wV 0) wNil)))
    (wSeq (wAugI 4 gSub (wV 2) (wIx (wV 0) (wV 3)))
    (wSeq (wAugI 4 gIadd (wV 3) (wIx (wV 0) (wV 3)))
    (wRet (wFn gTuple (wCons (wV 4) wNil)))))))
theorem map_set_int (h : List Int) (i : Nat) (x : Int) : (h.map PyData.int).set i (.int x) = (h.set i x).map .int := by rw [List.map_set]
theorem nat_le (i : Nat) : (0 : Int) ≤ i := Int.natCast_nonneg i
theorem pure_behind : Pure 5 2 sp_behind w_behind := by
  rintro ds A B - ⟨h, ⟨i, j⟩, rfl, hi, hj, hA⟩
  have hi : i < h.length := hi
  have hj : j < h.length := hj
  have hj' : j < (h.set i (gt h i - gt h j)).length := by rw [List.length_set]; exact hj
  simp only [w_behind, bl?, g2, gAdd, gDiv, gEq, gGe, gGt, gI, gIn, gInt, gIs, gIsNot, gLe, gLen, gList, gLt, gMM, gMod, gMul, gMulS, gNe, gNotIn, gPow, gSorted, gSub, gIadd, gSum, gTuple, puts, sV, sVs, slotM, wAnd, wApp, wAsg, wAug, wAugI, wB, wC, wCall, wCallR, wChain, wCons, wDraw, wDrop, wEnL, wEnT, wExt, wFn, wFnO, wFor, wGCons, wGNil, wGT, wIL, wIT, wIdx, wIf, wIfS, wIsi, wIx, wLc, wLst, wMNil, wMO, wMV, wMix, wN, wNeg, wNil, wNot, wNotT, wO, wOp, wOr, wOwn, wPar, wR1, wR2, wRaise, wRaiseF, wRet, wSeq, wSet, wSetI, wSkip, wTAnd, wTNot, wTOr, wTru, wTry, wTryF, wTup, wV, wYes, wSplit, wJoin, wRstrip, wFmt, wJNil, wJCons, wJs, gStr, gIntS, wIS, gSignNotIn, wSl, wSlt, wPn, wPs, gMulT, wGL, wTryAs, wXf, wXis, wCat, wCatV, wIxV, startS, List.length_cons, List.length_nil, List.map_cons, List.map_nil, List.getElem?_cons_zero, List.getElem?_cons_succ, List.set_cons_zero, List.set_cons_succ, List.cons_append, List.nil_append, List.append_nil, List.replicate_succ, List.replicate_zero, Nat.reduceAdd, Nat.reduceSub, ↓reduceIte, Bool.false_eq_true, reduceCtorEq, true_and, and_true, true_or, or_true, false_or, or_false, Bool.not_true, Bool.not_false, Bool.true_and, Bool.false_and, Bool.and_true, decide_eq_true_eq, Bool.not_eq_eq_eq_not, exists_eq_left, exists_eq_left', Option.some.injEq, eH, eP, at_gt hi, at_gt hj, flat_int, flat_ints, List.length_map, ixN_nat hi, map_set_int, at_gt hj', ixN_nat hj', nat_le]
  exact ⟨⟨_, rfl⟩, ⟨_, rfl⟩, hA⟩
end Pu


namespace Pu
open PySem L2
theorem at_ints {l : List Int} {i : Int} (h0 : 0 ≤ i) (h1 : i < l.length) : ∃ z, atI (l.map V.int) i = some (.int z) ∧ z ∈ l := by
  obtain ⟨j, rfl⟩ := Int.eq_ofNat_of_zero_le h0
  have hj : j < l.length := by omega
  refine ⟨l[j], ?_, List.getElem_mem hj⟩
  unfold atI ixN
  rw [List.length_map, if_pos (by omega), if_pos (by omega)]
  show (l.map V.int)[(j : Int).toNat]? = _
  rw [Int.toNat_natCast, List.getElem?_map, List.getElem?_eq_getElem hj]
  rfl
theorem fmod_in {i j : Int} (h : 1 ≤ j) : 0 ≤ i.fmod j ∧ i.fmod j < j := by
  rw [Int.fmod_eq_emod_of_nonneg i (by omega)]
  exact ⟨Int.emod_nonneg _ (by omega), Int.emod_lt_of_pos _ (by omega)⟩
def eO : Option Nat → PyData
  | none => .none
  | some k => .int (k : Int)
theorem flat_eO (o : Option Nat) : flat (eO o) = true := by cases o <;> rfl
def eL (p : List (Nat × Nat)) : PyData := .tuple (p.map eP)
theorem flats_eP (p : List (Nat × Nat)) : flats (p.map eP) = true := flats_map flat_eP p
def goneF : List Int → List (Nat × Nat) → Nat → List Int × Option Nat
  | h, [], _ => (h, none)
  | h, s :: r, k => if can h s = true then goneF (beh h s) r (k + 1) else (h, some k)
theorem beh_len (h : List Int) (s : Nat × Nat) : (beh h s).length = h.length := by unfold beh; rw [List.length_set, List.length_set]
def InP (n : Nat) (p : List (Nat × Nat)) : Prop := ∀ s ∈ p, s.1 < n ∧ s.2 < n
def OkP (n : Nat) (p : List (Nat × Nat)) : Prop := ∀ s ∈ p, okS n s
theorem OkP.inP {n : Nat} {p : List (Nat × Nat)} (h : OkP n p) : InP n p := fun s hs => ⟨(h s hs).1, (h s hs).2.1⟩
theorem can_use {h : List Int} {s : Nat × Nat} {A : PyData → Prop} {B : XC → Prop} (h1 : s.1 < h.length) (h2 : s.2 < h.length) (hA : A (.bool (can h s))) : sp_can_be_made [eH h, eP s] A B := ⟨h, s, rfl, h1, h2, hA⟩
theorem beh_use {h : List Int} {s : Nat × Nat} {A : PyData → Prop} {B : XC → Prop} (h1 : s.1 < h.length) (h2 : s.2 < h.length) (hA : A (eH (beh h s))) : sp_behind [eH h, eP s] A B := ⟨h, s, rfl, h1, h2, hA⟩
def sp_gone_through : Spc := fun ds A _ => ∃ h p, ds = [eH h, eL p] ∧ InP h.length p ∧ A (.tuple [eH (goneF h p 0).1, eO (goneF h p 0).2])

def w_gone_through : WS :=
    (wSeq (wFor (wEnT (wV 1)) (wGT 2 (wGCons (wN 2) (wGCons (wN 3) wGNil))) (wSeq (wIfS (wTNot (wB (wCall sp_can_be_made (wCons (wV 0) (wCons (wV 3) wNil))))) (wRet (wTup (wCons (wV 0) (wCons (wV 2) wNil)))) wSkip)
    (wSet 0 (wCall sp_behind (wCons (wV 0) (wCons (wV 3) wNil))))))
    (wRet (wTup (wCons (wV 0) (wCons (wC .none) wNil)))))
theorem pure_gone_through : Pure 4 2 sp_gone_through w_gone_through := by
  rintro ds A B - ⟨h, p, rfl, hp, hA⟩
  simp only [w_gone_through, bl?, g2, gAdd, gDiv, gEq, gGe, gGt, gI, gIn, gInt, gIs, gIsNot, gLe, gLen, gList, gLt, gMM, gMod, gMul, gMulS, gNe, gNotIn, gPow, gSorted, gSub, gIadd, gSum, gTuple, puts, sV, sVs, slotM, wAnd, wApp, wAsg, wAug, wAugI, wB, wC, wCall, wCallR, wChain, wCons, wDraw, wDrop, wEnL, wEnT, wExt, wFn, wFnO, wFor, wGCons, wGNil, wGT, wIL, wIT, wIdx, wIf, wIfS, wIsi, wIx, wLc, wLst, wMNil, wMO, wMV, wMix, wN, wNeg, wNil, wNot, wNotT, wO, wOp, wOr, wOwn, wPar, wR1, wR2, wRaise, wRaiseF, wRet, wSeq, wSet, wSetI, wSkip, wTAnd, wTNot, wTOr, wTru, wTry, wTryF, wTup, wV, wYes, wSplit, wJoin, wRstrip, wFmt, wJNil, wJCons, wJs, gStr, gIntS, wIS, gSignNotIn, wSl, wSlt, wPn, wPs, gMulT, wGL, wTryAs, wXf, wXis, wCat, wCatV, wIxV, startS, List.length_cons, List.length_nil, List.map_cons, List.map_nil, List.getElem?_cons_zero, List.getElem?_cons_succ, List.set_cons_zero, List.set_cons_succ, List.cons_append, List.nil_append, List.append_nil, List.replicate_succ, List.replicate_zero, Nat.reduceAdd, Nat.reduceSub, ↓reduceIte, Bool.false_eq_true, reduceCtorEq, true_and, and_true, true_or, or_true, false_or, or_false, Bool.not_true, Bool.not_false, Bool.true_and, Bool.false_and, Bool.and_true, decide_eq_true_eq, Bool.not_eq_eq_eq_not, exists_eq_left, exists_eq_left', Option.some.injEq, eL]
  refine for_inv (fun r S => ∃ k q g s2 s3, r = enumFr k (q.map eP) ∧ S = [.im (eH g), .im (.tuple (p.map eP)), s2, s3] ∧ InP g.length q ∧ A (.tuple [eH (goneF g q k).1, eO (goneF g q k).2])) _ _ ?_ ⟨0, p, h, _, _, rfl, rfl, hp, hA⟩ ?_
  · rintro d r S ⟨k, q, g, s2, s3, er, rfl, hq, hA⟩ Nx hN
    cases q with
    | nil => cases er
    | cons s q =>
      cases er
      have hs := hq s List.mem_cons_self
      simp only [bl?, g2, gAdd, gDiv, gEq, gGe, gGt, gI, gIn, gInt, gIs, gIsNot, gLe, gLen, gList, gLt, gMM, gMod, gMul, gMulS, gNe, gNotIn, gPow, gSorted, gSub, gIadd, gSum, gTuple, puts, sV, sVs, slotM, wAnd, wApp, wAsg, wAug, wAugI, wB, wC, wCall, wCallR, wChain, wCons, wDraw, wDrop, wEnL, wEnT, wExt, wFn, wFnO, wFor, wGCons, wGNil, wGT, wIL, wIT, wIdx, wIf, wIfS, wIsi, wIx, wLc, wLst, wMNil, wMO, wMV, wMix, wN, wNeg, wNil, wNot, wNotT, wO, wOp, wOr, wOwn, wPar, wR1, wR2, wRaise, wRaiseF, wRet, wSeq, wSet, wSetI, wSkip, wTAnd, wTNot, wTOr, wTru, wTry, wTryF, wTup, wV, wYes, wSplit, wJoin, wRstrip, wFmt, wJNil, wJCons, wJs, gStr, gIntS, wIS, gSignNotIn, wSl, wSlt, wPn, wPs, gMulT, wGL, wTryAs, wXf, wXis, wCat, wCatV, wIxV, startS, List.length_cons, List.length_nil, List.map_cons, List.map_nil, List.getElem?_cons_zero, List.getElem?_cons_succ, List.set_cons_zero, List.set_cons_succ, List.cons_append, List.nil_append, List.append_nil, List.replicate_succ, List.replicate_zero, Nat.reduceAdd, Nat.reduceSub, ↓reduceIte, Bool.false_eq_true, reduceCtorEq, true_and, and_true, true_or, or_true, false_or, or_false, Bool.not_true, Bool.not_false, Bool.true_and, Bool.false_and, Bool.and_true, decide_eq_true_eq, Bool.not_eq_eq_eq_not, exists_eq_left, exists_eq_left', Option.some.injEq, flat_int, flat_eP]
      refine can_use hs.1 hs.2 ?_
      by_cases c : can g s = true
      · simp only [c, bl?, g2, gAdd, gDiv, gEq, gGe, gGt, gI, gIn, gInt, gIs, gIsNot, gLe, gLen, gList, gLt, gMM, gMod, gMul, gMulS, gNe, gNotIn, gPow, gSorted, gSub, gIadd, gSum, gTuple, puts, sV, sVs, slotM, wAnd, wApp, wAsg, wAug, wAugI, wB, wC, wCall, wCallR, wChain, wCons, wDraw, wDrop, wEnL, wEnT, wExt, wFn, wFnO, wFor, wGCons, wGNil, wGT, wIL, wIT, wIdx, wIf, wIfS, wIsi, wIx, wLc, wLst, wMNil, wMO, wMV, wMix, wN, wNeg, wNil, wNot, wNotT, wO, wOp, wOr, wOwn, wPar, wR1, wR2, wRaise, wRaiseF, wRet, wSeq, wSet, wSetI, wSkip, wTAnd, wTNot, wTOr, wTru, wTry, wTryF, wTup, wV, wYes, wSplit, wJoin, wRstrip, wFmt, wJNil, wJCons, wJs, gStr, gIntS, wIS, gSignNotIn, wSl, wSlt, wPn, wPs, gMulT, wGL, wTryAs, wXf, wXis, wCat, wCatV, wIxV, startS, List.length_cons, List.length_nil, List.map_cons, List.map_nil, List.getElem?_cons_zero, List.getElem?_cons_succ, List.set_cons_zero, List.set_cons_succ, List.cons_append, List.nil_append, List.append_nil, List.replicate_succ, List.replicate_zero, Nat.reduceAdd, Nat.reduceSub, ↓reduceIte, Bool.false_eq_true, reduceCtorEq, true_and, and_true, true_or, or_true, false_or, or_false, Bool.not_true, Bool.not_false, Bool.true_and, Bool.false_and, Bool.and_true, decide_eq_true_eq, Bool.not_eq_eq_eq_not, exists_eq_left, exists_eq_left', Option.some.injEq]
        refine beh_use hs.1 hs.2 (hN _ ⟨k + 1, q, beh g s, _, _, rfl, rfl, fun x hx => by rw [beh_len]; exact hq x (List.mem_cons_of_mem _ hx), ?_⟩)
        have e : goneF g (s :: q) k = goneF (beh g s) q (k + 1) := by show (if can g s = true then _ else _) = _; rw [if_pos c]
        rw [e] at hA
        exact hA
      · have c' : can g s = false := by simpa using c
        have e : goneF g (s :: q) k = (g, some k) := by show (if can g s = true then _ else _) = _; rw [if_neg c]
        rw [e] at hA
        simp only [c', bl?, g2, gAdd, gDiv, gEq, gGe, gGt, gI, gIn, gInt, gIs, gIsNot, gLe, gLen, gList, gLt, gMM, gMod, gMul, gMulS, gNe, gNotIn, gPow, gSorted, gSub, gIadd, gSum, gTuple, puts, sV, sVs, slotM, wAnd, wApp, wAsg, wAug, wAugI, wB, wC, wCall, wCallR, wChain, wCons, wDraw, wDrop, wEnL, wEnT, wExt, wFn, wFnO, wFor, wGCons, wGNil, wGT, wIL, wIT, wIdx, wIf, wIfS, wIsi, wIx, wLc, wLst, wMNil, wMO, wMV, wMix, wN, wNeg, wNil, wNot, wNotT, wO, wOp, wOr, wOwn, wPar, wR1, wR2, wRaise, wRaiseF, wRet, wSeq, wSet, wSetI, wSkip, wTAnd, wTNot, wTOr, wTru, wTry, wTryF, wTup, wV, wYes, wSplit, wJoin, wRstrip, wFmt, wJNil, wJCons, wJs, gStr, gIntS, wIS, gSignNotIn, wSl, wSlt, wPn, wPs, gMulT, wGL, wTryAs, wXf, wXis, wCat, wCatV, wIxV, startS, List.length_cons, List.length_nil, List.map_cons, List.map_nil, List.getElem?_cons_zero, List.getElem?_cons_succ, List.set_cons_zero, List.set_cons_succ, List.cons_append, List.nil_append, List.append_nil, List.replicate_succ, List.replicate_zero, Nat.reduceAdd, Nat.reduceSub, ↓reduceIte, Bool.false_eq_true, reduceCtorEq, true_and, and_true, true_or, or_true, false_or, or_false, Bool.not_true, Bool.not_false, Bool.true_and, Bool.false_and, Bool.and_true, decide_eq_true_eq, Bool.not_eq_eq_eq_not, exists_eq_left, exists_eq_left', Option.some.injEq]
        exact ⟨by decide, hA⟩
  · rintro S ⟨k, q, g, s2, s3, er, rfl, hq, hA⟩
    cases q with
    | nil =>
      simp only [bl?, g2, gAdd, gDiv, gEq, gGe, gGt, gI, gIn, gInt, gIs, gIsNot, gLe, gLen, gList, gLt, gMM, gMod, gMul, gMulS, gNe, gNotIn, gPow, gSorted, gSub, gIadd, gSum, gTuple, puts, sV, sVs, slotM, wAnd, wApp, wAsg, wAug, wAugI, wB, wC, wCall, wCallR, wChain, wCons, wDraw, wDrop, wEnL, wEnT, wExt, wFn, wFnO, wFor, wGCons, wGNil, wGT, wIL, wIT, wIdx, wIf, wIfS, wIsi, wIx, wLc, wLst, wMNil, wMO, wMV, wMix, wN, wNeg, wNil, wNot, wNotT, wO, wOp, wOr, wOwn, wPar, wR1, wR2, wRaise, wRaiseF, wRet, wSeq, wSet, wSetI, wSkip, wTAnd, wTNot, wTOr, wTru, wTry, wTryF, wTup, wV, wYes, wSplit, wJoin, wRstrip, wFmt, wJNil, wJCons, wJs, gStr, gIntS, wIS, gSignNotIn, wSl, wSlt, wPn, wPs, gMulT, wGL, wTryAs, wXf, wXis, wCat, wCatV, wIxV, startS, List.length_cons, List.length_nil, List.map_cons, List.map_nil, List.getElem?_cons_zero, List.getElem?_cons_succ, List.set_cons_zero, List.set_cons_succ, List.cons_append, List.nil_append, List.append_nil, List.replicate_succ, List.replicate_zero, Nat.reduceAdd, Nat.reduceSub, ↓reduceIte, Bool.false_eq_true, reduceCtorEq, true_and, and_true, true_or, or_true, false_or, or_false, Bool.not_true, Bool.not_false, Bool.true_and, Bool.false_and, Bool.and_true, decide_eq_true_eq, Bool.not_eq_eq_eq_not, exists_eq_left, exists_eq_left', Option.some.injEq]
      exact ⟨by decide, hA⟩
    | cons s q => cases er
def sp_check_plan : Spc := fun ds A _ => ∃ h p, ds = [eH h, eL p] ∧ OkH h ∧ OkP h.length p ∧ p.length ≤ 20000 ∧ A .none

def w_check_plan : WS :=
    (wSeq (wDrop (wCall sp_check_heaps (wCons (wV 0) wNil)))
    (wSeq (wIfS (wTOr (wTNot (wB (wIsi "tuple" (wV 1)))) (wB (wOp gGt (wFn gLen (wCons (wV 1) wNil)) (wC (.int 20000))))) (wRaiseF "BadPlan" ["index"] (wCons (wC .none) wNil)) wSkip)
    (wFor (wEnT (wV 1)) (wGT 2 (wGCons (wN 2) (wGCons (wN 3) wGNil))) (wIfS (wTNot (wB (wCall sp_is_step (wCons (wV 3) (wCons (wFn gLen (wCons (wV 0) wNil)) wNil))))) (wRaiseF "BadPlan" ["index"] (wCons (wV 2) wNil)) wSkip))))
theorem len_eL (p : List (Nat × Nat)) : ((p.map eP).length : Int) = p.length := by rw [List.length_map]
theorem len_eH (h : List Int) : ((h.map PyData.int).length : Int) = h.length := by rw [List.length_map]
theorem pure_check_plan : Pure 4 2 sp_check_plan w_check_plan := by
  rintro ds A B - ⟨h, p, rfl, oh, op, hl, hA⟩
  simp only [w_check_plan, bl?, g2, gAdd, gDiv, gEq, gGe, gGt, gI, gIn, gInt, gIs, gIsNot, gLe, gLen, gList, gLt, gMM, gMod, gMul, gMulS, gNe, gNotIn, gPow, gSorted, gSub, gIadd, gSum, gTuple, puts, sV, sVs, slotM, wAnd, wApp, wAsg, wAug, wAugI, wB, wC, wCall, wCallR, wChain, wCons, wDraw, wDrop, wEnL, wEnT, wExt, wFn, wFnO, wFor, wGCons, wGNil, wGT, wIL, wIT, wIdx, wIf, wIfS, wIsi, wIx, wLc, wLst, wMNil, wMO, wMV, wMix, wN, wNeg, wNil, wNot, wNotT, wO, wOp, wOr, wOwn, wPar, wR1, wR2, wRaise, wRaiseF, wRet, wSeq, wSet, wSetI, wSkip, wTAnd, wTNot, wTOr, wTru, wTry, wTryF, wTup, wV, wYes, wSplit, wJoin, wRstrip, wFmt, wJNil, wJCons, wJs, gStr, gIntS, wIS, gSignNotIn, wSl, wSlt, wPn, wPs, gMulT, wGL, wTryAs, wXf, wXis, wCat, wCatV, wIxV, startS, List.length_cons, List.length_nil, List.map_cons, List.map_nil, List.getElem?_cons_zero, List.getElem?_cons_succ, List.set_cons_zero, List.set_cons_succ, List.cons_append, List.nil_append, List.append_nil, List.replicate_succ, List.replicate_zero, Nat.reduceAdd, Nat.reduceSub, ↓reduceIte, Bool.false_eq_true, reduceCtorEq, true_and, and_true, true_or, or_true, false_or, or_false, Bool.not_true, Bool.not_false, Bool.true_and, Bool.false_and, Bool.and_true, decide_eq_true_eq, Bool.not_eq_eq_eq_not, exists_eq_left, exists_eq_left', Option.some.injEq, eL]
  refine check_ok oh ?_
  have hl' : ¬ ((20000 : Int) < p.length) := by omega
  simp only [startS, List.length_cons, List.length_nil, List.map_cons, List.map_nil, List.getElem?_cons_zero, List.getElem?_cons_succ, List.set_cons_zero, List.set_cons_succ, List.cons_append, List.nil_append, List.append_nil, List.replicate_succ, List.replicate_zero, Nat.reduceAdd, Nat.reduceSub, ↓reduceIte, Bool.false_eq_true, reduceCtorEq, true_and, and_true, true_or, or_true, false_or, or_false, Bool.not_true, Bool.not_false, Bool.true_and, Bool.false_and, Bool.and_true, decide_eq_true_eq, Bool.not_eq_eq_eq_not, exists_eq_left, exists_eq_left', Option.some.injEq, typ_tup, isT_tt, bl?, g2, gAdd, gDiv, gEq, gGe, gGt, gI, gIn, gInt, gIs, gIsNot, gLe, gLen, gList, gLt, gMM, gMod, gMul, gMulS, gNe, gNotIn, gPow, gSorted, gSub, gIadd, gSum, gTuple, puts, sV, sVs, slotM, wAnd, wApp, wAsg, wAug, wAugI, wB, wC, wCall, wCallR, wChain, wCons, wDraw, wDrop, wEnL, wEnT, wExt, wFn, wFnO, wFor, wGCons, wGNil, wGT, wIL, wIT, wIdx, wIf, wIfS, wIsi, wIx, wLc, wLst, wMNil, wMO, wMV, wMix, wN, wNeg, wNil, wNot, wNotT, wO, wOp, wOr, wOwn, wPar, wR1, wR2, wRaise, wRaiseF, wRet, wSeq, wSet, wSetI, wSkip, wTAnd, wTNot, wTOr, wTru, wTry, wTryF, wTup, wV, wYes, wSplit, wJoin, wRstrip, wFmt, wJNil, wJCons, wJs, gStr, gIntS, wIS, gSignNotIn, wSl, wSlt, wPn, wPs, gMulT, wGL, wTryAs, wXf, wXis, wCat, wCatV, wIxV, len_eL, hl', decide_false]
  refine ⟨by decide, for_inv (fun r S => ∃ k q s2 s3, r = enumFr k (q.map eP) ∧ S = [.im (eH h), .im (.tuple (p.map eP)), s2, s3] ∧ OkP h.length q) _ _ ?_ ⟨0, p, _, _, rfl, rfl, op⟩ ?_⟩
  · rintro d r S ⟨k, q, s2, s3, er, rfl, hq⟩ Nx hN
    cases q with
    | nil => cases er
    | cons s q =>
      cases er
      have hs := hq s List.mem_cons_self
      have e : isStepD (eP s) (h.length : Int) = true := by rw [isStep_eP, decide_eq_true hs.1, decide_eq_true hs.2.1, decide_eq_true hs.2.2]; rfl
      simp only [bl?, g2, gAdd, gDiv, gEq, gGe, gGt, gI, gIn, gInt, gIs, gIsNot, gLe, gLen, gList, gLt, gMM, gMod, gMul, gMulS, gNe, gNotIn, gPow, gSorted, gSub, gIadd, gSum, gTuple, puts, sV, sVs, slotM, wAnd, wApp, wAsg, wAug, wAugI, wB, wC, wCall, wCallR, wChain, wCons, wDraw, wDrop, wEnL, wEnT, wExt, wFn, wFnO, wFor, wGCons, wGNil, wGT, wIL, wIT, wIdx, wIf, wIfS, wIsi, wIx, wLc, wLst, wMNil, wMO, wMV, wMix, wN, wNeg, wNil, wNot, wNotT, wO, wOp, wOr, wOwn, wPar, wR1, wR2, wRaise, wRaiseF, wRet, wSeq, wSet, wSetI, wSkip, wTAnd, wTNot, wTOr, wTru, wTry, wTryF, wTup, wV, wYes, wSplit, wJoin, wRstrip, wFmt, wJNil, wJCons, wJs, gStr, gIntS, wIS, gSignNotIn, wSl, wSlt, wPn, wPs, gMulT, wGL, wTryAs, wXf, wXis, wCat, wCatV, wIxV, startS, List.length_cons, List.length_nil, List.map_cons, List.map_nil, List.getElem?_cons_zero, List.getElem?_cons_succ, List.set_cons_zero, List.set_cons_succ, List.cons_append, List.nil_append, List.append_nil, List.replicate_succ, List.replicate_zero, Nat.reduceAdd, Nat.reduceSub, ↓reduceIte, Bool.false_eq_true, reduceCtorEq, true_and, and_true, true_or, or_true, false_or, or_false, Bool.not_true, Bool.not_false, Bool.true_and, Bool.false_and, Bool.and_true, decide_eq_true_eq, Bool.not_eq_eq_eq_not, exists_eq_left, exists_eq_left', Option.some.injEq, flat_int, flat_eP, eH, len_eH, sp_is_step_eq, e]
      exact ⟨plain_eP s, hN _ ⟨k + 1, q, _, _, rfl, rfl, fun x hx => hq x (List.mem_cons_of_mem _ hx)⟩⟩
  · rintro S ⟨k, q, s2, s3, er, rfl, hq⟩
    exact hA
def sp_judge : Spc := fun ds A _ => ∃ h p, ds = [eH h, eL p] ∧ OkH h ∧ OkP h.length p ∧ p.length ≤ 20000 ∧ A (eO (goneF h p 0).2)

def w_judge : WS :=
    (wSeq (wDrop (wCall sp_check_plan (wCons (wV 0) (wCons (wV 1) wNil))))
    (wRet (wIx (wCall sp_gone_through (wCons (wV 0) (wCons (wV 1) wNil))) (wC (.int 1)))))
theorem at_1 {x y : PyData} : atD [x, y] 1 = some y := rfl
theorem at_0 {x y : PyData} : atD [x, y] 0 = some x := rfl
theorem pure_judge : Pure 2 2 sp_judge w_judge := by
  rintro ds A B - ⟨h, p, rfl, oh, op, hl, hA⟩
  simp only [w_judge, bl?, g2, gAdd, gDiv, gEq, gGe, gGt, gI, gIn, gInt, gIs, gIsNot, gLe, gLen, gList, gLt, gMM, gMod, gMul, gMulS, gNe, gNotIn, gPow, gSorted, gSub, gIadd, gSum, gTuple, puts, sV, sVs, slotM, wAnd, wApp, wAsg, wAug, wAugI, wB, wC, wCall, wCallR, wChain, wCons, wDraw, wDrop, wEnL, wEnT, wExt, wFn, wFnO, wFor, wGCons, wGNil, wGT, wIL, wIT, wIdx, wIf, wIfS, wIsi, wIx, wLc, wLst, wMNil, wMO, wMV, wMix, wN, wNeg, wNil, wNot, wNotT, wO, wOp, wOr, wOwn, wPar, wR1, wR2, wRaise, wRaiseF, wRet, wSeq, wSet, wSetI, wSkip, wTAnd, wTNot, wTOr, wTru, wTry, wTryF, wTup, wV, wYes, wSplit, wJoin, wRstrip, wFmt, wJNil, wJCons, wJs, gStr, gIntS, wIS, gSignNotIn, wSl, wSlt, wPn, wPs, gMulT, wGL, wTryAs, wXf, wXis, wCat, wCatV, wIxV, startS, List.length_cons, List.length_nil, List.map_cons, List.map_nil, List.getElem?_cons_zero, List.getElem?_cons_succ, List.set_cons_zero, List.set_cons_succ, List.cons_append, List.nil_append, List.append_nil, List.replicate_succ, List.replicate_zero, Nat.reduceAdd, Nat.reduceSub, ↓reduceIte, Bool.false_eq_true, reduceCtorEq, true_and, and_true, true_or, or_true, false_or, or_false, Bool.not_true, Bool.not_false, Bool.true_and, Bool.false_and, Bool.and_true, decide_eq_true_eq, Bool.not_eq_eq_eq_not, exists_eq_left, exists_eq_left', Option.some.injEq]
  refine ⟨h, p, rfl, oh, op, hl, h, p, rfl, op.inP, ?_⟩
  simp only [at_1, startS, List.length_cons, List.length_nil, List.map_cons, List.map_nil, List.getElem?_cons_zero, List.getElem?_cons_succ, List.set_cons_zero, List.set_cons_succ, List.cons_append, List.nil_append, List.append_nil, List.replicate_succ, List.replicate_zero, Nat.reduceAdd, Nat.reduceSub, ↓reduceIte, Bool.false_eq_true, reduceCtorEq, true_and, and_true, true_or, or_true, false_or, or_false, Bool.not_true, Bool.not_false, Bool.true_and, Bool.false_and, Bool.and_true, decide_eq_true_eq, Bool.not_eq_eq_eq_not, exists_eq_left, exists_eq_left', Option.some.injEq]
  exact hA
def sp_made : Spc := fun ds A B => ∃ h p, ds = [eH h, eL p] ∧ OkH h ∧ OkP h.length p ∧ p.length ≤ 20000 ∧ ((goneF h p 0).2 = none → A (eH (goneF h p 0).1)) ∧ ∀ k, (goneF h p 0).2 = some k → B ("BadPlan", [("index", .int (k : Int))])

def w_made : WS :=
    (wSeq (wDrop (wCall sp_check_plan (wCons (wV 0) (wCons (wV 1) wNil))))
    (wSeq (wAsg (wCall sp_gone_through (wCons (wV 0) (wCons (wV 1) wNil))) (wGT 2 (wGCons (wN 2) (wGCons (wN 3) wGNil))))
    (wSeq (wIfS (wB (wOp gIsNot (wV 3) (wC .none))) (wRaiseF "BadPlan" ["index"] (wCons (wV 3) wNil)) wSkip)
    (wRet (wV 2)))))
theorem pure_made : Pure 4 2 sp_made w_made := by
  rintro ds A B - ⟨h, p, rfl, oh, op, hl, hA, hB⟩
  simp only [w_made, bl?, g2, gAdd, gDiv, gEq, gGe, gGt, gI, gIn, gInt, gIs, gIsNot, gLe, gLen, gList, gLt, gMM, gMod, gMul, gMulS, gNe, gNotIn, gPow, gSorted, gSub, gIadd, gSum, gTuple, puts, sV, sVs, slotM, wAnd, wApp, wAsg, wAug, wAugI, wB, wC, wCall, wCallR, wChain, wCons, wDraw, wDrop, wEnL, wEnT, wExt, wFn, wFnO, wFor, wGCons, wGNil, wGT, wIL, wIT, wIdx, wIf, wIfS, wIsi, wIx, wLc, wLst, wMNil, wMO, wMV, wMix, wN, wNeg, wNil, wNot, wNotT, wO, wOp, wOr, wOwn, wPar, wR1, wR2, wRaise, wRaiseF, wRet, wSeq, wSet, wSetI, wSkip, wTAnd, wTNot, wTOr, wTru, wTry, wTryF, wTup, wV, wYes, wSplit, wJoin, wRstrip, wFmt, wJNil, wJCons, wJs, gStr, gIntS, wIS, gSignNotIn, wSl, wSlt, wPn, wPs, gMulT, wGL, wTryAs, wXf, wXis, wCat, wCatV, wIxV, startS, List.length_cons, List.length_nil, List.map_cons, List.map_nil, List.getElem?_cons_zero, List.getElem?_cons_succ, List.set_cons_zero, List.set_cons_succ, List.cons_append, List.nil_append, List.append_nil, List.replicate_succ, List.replicate_zero, Nat.reduceAdd, Nat.reduceSub, ↓reduceIte, Bool.false_eq_true, reduceCtorEq, true_and, and_true, true_or, or_true, false_or, or_false, Bool.not_true, Bool.not_false, Bool.true_and, Bool.false_and, Bool.and_true, decide_eq_true_eq, Bool.not_eq_eq_eq_not, exists_eq_left, exists_eq_left', Option.some.injEq]
  refine ⟨h, p, rfl, oh, op, hl, h, p, rfl, op.inP, ?_⟩
  simp only [startS, List.length_cons, List.length_nil, List.map_cons, List.map_nil, List.getElem?_cons_zero, List.getElem?_cons_succ, List.set_cons_zero, List.set_cons_succ, List.cons_append, List.nil_append, List.append_nil, List.replicate_succ, List.replicate_zero, Nat.reduceAdd, Nat.reduceSub, ↓reduceIte, Bool.false_eq_true, reduceCtorEq, true_and, and_true, true_or, or_true, false_or, or_false, Bool.not_true, Bool.not_false, Bool.true_and, Bool.false_and, Bool.and_true, decide_eq_true_eq, Bool.not_eq_eq_eq_not, exists_eq_left, exists_eq_left', Option.some.injEq, flat_eH, flat_eO, bl?, g2, gAdd, gDiv, gEq, gGe, gGt, gI, gIn, gInt, gIs, gIsNot, gLe, gLen, gList, gLt, gMM, gMod, gMul, gMulS, gNe, gNotIn, gPow, gSorted, gSub, gIadd, gSum, gTuple, puts, sV, sVs, slotM, wAnd, wApp, wAsg, wAug, wAugI, wB, wC, wCall, wCallR, wChain, wCons, wDraw, wDrop, wEnL, wEnT, wExt, wFn, wFnO, wFor, wGCons, wGNil, wGT, wIL, wIT, wIdx, wIf, wIfS, wIsi, wIx, wLc, wLst, wMNil, wMO, wMV, wMix, wN, wNeg, wNil, wNot, wNotT, wO, wOp, wOr, wOwn, wPar, wR1, wR2, wRaise, wRaiseF, wRet, wSeq, wSet, wSetI, wSkip, wTAnd, wTNot, wTOr, wTru, wTry, wTryF, wTup, wV, wYes, wSplit, wJoin, wRstrip, wFmt, wJNil, wJCons, wJs, gStr, gIntS, wIS, gSignNotIn, wSl, wSlt, wPn, wPs, gMulT, wGL, wTryAs, wXf, wXis, wCat, wCatV, wIxV]
  cases e : (goneF h p 0).2 with
  | none =>
    simp only [eO, bl?, g2, gAdd, gDiv, gEq, gGe, gGt, gI, gIn, gInt, gIs, gIsNot, gLe, gLen, gList, gLt, gMM, gMod, gMul, gMulS, gNe, gNotIn, gPow, gSorted, gSub, gIadd, gSum, gTuple, puts, sV, sVs, slotM, wAnd, wApp, wAsg, wAug, wAugI, wB, wC, wCall, wCallR, wChain, wCons, wDraw, wDrop, wEnL, wEnT, wExt, wFn, wFnO, wFor, wGCons, wGNil, wGT, wIL, wIT, wIdx, wIf, wIfS, wIsi, wIx, wLc, wLst, wMNil, wMO, wMV, wMix, wN, wNeg, wNil, wNot, wNotT, wO, wOp, wOr, wOwn, wPar, wR1, wR2, wRaise, wRaiseF, wRet, wSeq, wSet, wSetI, wSkip, wTAnd, wTNot, wTOr, wTru, wTry, wTryF, wTup, wV, wYes, wSplit, wJoin, wRstrip, wFmt, wJNil, wJCons, wJs, gStr, gIntS, wIS, gSignNotIn, wSl, wSlt, wPn, wPs, gMulT, wGL, wTryAs, wXf, wXis, wCat, wCatV, wIxV, startS, List.length_cons, List.length_nil, List.map_cons, List.map_nil, List.getElem?_cons_zero, List.getElem?_cons_succ, List.set_cons_zero, List.set_cons_succ, List.cons_append, List.nil_append, List.append_nil, List.replicate_succ, List.replicate_zero, Nat.reduceAdd, Nat.reduceSub, ↓reduceIte, Bool.false_eq_true, reduceCtorEq, true_and, and_true, true_or, or_true, false_or, or_false, Bool.not_true, Bool.not_false, Bool.true_and, Bool.false_and, Bool.and_true, decide_eq_true_eq, Bool.not_eq_eq_eq_not, exists_eq_left, exists_eq_left', Option.some.injEq]
    exact hA e
  | some k =>
    simp only [eO, bl?, g2, gAdd, gDiv, gEq, gGe, gGt, gI, gIn, gInt, gIs, gIsNot, gLe, gLen, gList, gLt, gMM, gMod, gMul, gMulS, gNe, gNotIn, gPow, gSorted, gSub, gIadd, gSum, gTuple, puts, sV, sVs, slotM, wAnd, wApp, wAsg, wAug, wAugI, wB, wC, wCall, wCallR, wChain, wCons, wDraw, wDrop, wEnL, wEnT, wExt, wFn, wFnO, wFor, wGCons, wGNil, wGT, wIL, wIT, wIdx, wIf, wIfS, wIsi, wIx, wLc, wLst, wMNil, wMO, wMV, wMix, wN, wNeg, wNil, wNot, wNotT, wO, wOp, wOr, wOwn, wPar, wR1, wR2, wRaise, wRaiseF, wRet, wSeq, wSet, wSetI, wSkip, wTAnd, wTNot, wTOr, wTru, wTry, wTryF, wTup, wV, wYes, wSplit, wJoin, wRstrip, wFmt, wJNil, wJCons, wJs, gStr, gIntS, wIS, gSignNotIn, wSl, wSlt, wPn, wPs, gMulT, wGL, wTryAs, wXf, wXis, wCat, wCatV, wIxV, startS, List.length_cons, List.length_nil, List.map_cons, List.map_nil, List.getElem?_cons_zero, List.getElem?_cons_succ, List.set_cons_zero, List.set_cons_succ, List.cons_append, List.nil_append, List.append_nil, List.replicate_succ, List.replicate_zero, Nat.reduceAdd, Nat.reduceSub, ↓reduceIte, Bool.false_eq_true, reduceCtorEq, true_and, and_true, true_or, or_true, false_or, or_false, Bool.not_true, Bool.not_false, Bool.true_and, Bool.false_and, Bool.and_true, decide_eq_true_eq, Bool.not_eq_eq_eq_not, exists_eq_left, exists_eq_left', Option.some.injEq]
    exact hB k e

/-! ### the law's own defs -/
def sp_law_can : Spc := sp_can_be_made

def w_law_can : WS :=
    (wRet (wChain gLt gLe (wC (.int 0)) (wIx (wV 0) (wIx (wV 1) (wC (.int 1)))) (wIx (wV 0) (wIx (wV 1) (wC (.int 0))))))
theorem pure_law_can : Pure 2 2 sp_law_can w_law_can := by
  rintro ds A B - ⟨h, ⟨i, j⟩, rfl, hi, hj, hA⟩
  have hi : i < h.length := hi
  have hj : j < h.length := hj
  simp only [w_law_can, bl?, g2, gAdd, gDiv, gEq, gGe, gGt, gI, gIn, gInt, gIs, gIsNot, gLe, gLen, gList, gLt, gMM, gMod, gMul, gMulS, gNe, gNotIn, gPow, gSorted, gSub, gIadd, gSum, gTuple, puts, sV, sVs, slotM, wAnd, wApp, wAsg, wAug, wAugI, wB, wC, wCall, wCallR, wChain, wCons, wDraw, wDrop, wEnL, wEnT, wExt, wFn, wFnO, wFor, wGCons, wGNil, wGT, wIL, wIT, wIdx, wIf, wIfS, wIsi, wIx, wLc, wLst, wMNil, wMO, wMV, wMix, wN, wNeg, wNil, wNot, wNotT, wO, wOp, wOr, wOwn, wPar, wR1, wR2, wRaise, wRaiseF, wRet, wSeq, wSet, wSetI, wSkip, wTAnd, wTNot, wTOr, wTru, wTry, wTryF, wTup, wV, wYes, wSplit, wJoin, wRstrip, wFmt, wJNil, wJCons, wJs, gStr, gIntS, wIS, gSignNotIn, wSl, wSlt, wPn, wPs, gMulT, wGL, wTryAs, wXf, wXis, wCat, wCatV, wIxV, startS, List.length_cons, List.length_nil, List.map_cons, List.map_nil, List.getElem?_cons_zero, List.getElem?_cons_succ, List.set_cons_zero, List.set_cons_succ, List.cons_append, List.nil_append, List.append_nil, List.replicate_succ, List.replicate_zero, Nat.reduceAdd, Nat.reduceSub, ↓reduceIte, Bool.false_eq_true, reduceCtorEq, true_and, and_true, true_or, or_true, false_or, or_false, Bool.not_true, Bool.not_false, Bool.true_and, Bool.false_and, Bool.and_true, decide_eq_true_eq, Bool.not_eq_eq_eq_not, exists_eq_left, exists_eq_left', Option.some.injEq, eH, eP, at_0, at_1, at_gt hi, at_gt hj, flat_int]
  exact if_dec (A := fun b => A (.bool b)) hA
def sp_law_behind : Spc := sp_behind

def w_law_behind : WS :=
    (wSeq (wOwn 2 (wFnO gList (wCons (wV 0) wNil)))
    (wSeq (wSetI 2 (wOp gSub (wIx (wV 2) (wIx (wV 1) (wC (.int 0)))) (wIx (wV 0) (wIx (wV 1) (wC (.int 1))))) (wIx (wV 1) (wC (.int 0))))
    (wSeq (wSetI 2 (wOp gAdd (wIx (wV 2) (wIx (wV 1) (wC (.int 1)))) (wIx (wV 0) (wIx (wV 1) (wC (.int 1))))) (wIx (wV 1) (wC (.int 1))))
    (wRet (wFn gTuple (wCons (wV 2) wNil))))))
theorem pure_law_behind : Pure 3 2 sp_law_behind w_law_behind := by
  rintro ds A B - ⟨h, ⟨i, j⟩, rfl, hi, hj, hA⟩
  have hi : i < h.length := hi
  have hj : j < h.length := hj
  have hj' : j < (h.set i (gt h i - gt h j)).length := by rw [List.length_set]; exact hj
  simp only [w_law_behind, bl?, g2, gAdd, gDiv, gEq, gGe, gGt, gI, gIn, gInt, gIs, gIsNot, gLe, gLen, gList, gLt, gMM, gMod, gMul, gMulS, gNe, gNotIn, gPow, gSorted, gSub, gIadd, gSum, gTuple, puts, sV, sVs, slotM, wAnd, wApp, wAsg, wAug, wAugI, wB, wC, wCall, wCallR, wChain, wCons, wDraw, wDrop, wEnL, wEnT, wExt, wFn, wFnO, wFor, wGCons, wGNil, wGT, wIL, wIT, wIdx, wIf, wIfS, wIsi, wIx, wLc, wLst, wMNil, wMO, wMV, wMix, wN, wNeg, wNil, wNot, wNotT, wO, wOp, wOr, wOwn, wPar, wR1, wR2, wRaise, wRaiseF, wRet, wSeq, wSet, wSetI, wSkip, wTAnd, wTNot, wTOr, wTru, wTry, wTryF, wTup, wV, wYes, wSplit, wJoin, wRstrip, wFmt, wJNil, wJCons, wJs, gStr, gIntS, wIS, gSignNotIn, wSl, wSlt, wPn, wPs, gMulT, wGL, wTryAs, wXf, wXis, wCat, wCatV, wIxV, startS, List.length_cons, List.length_nil, List.map_cons, List.map_nil, List.getElem?_cons_zero, List.getElem?_cons_succ, List.set_cons_zero, List.set_cons_succ, List.cons_append, List.nil_append, List.append_nil, List.replicate_succ, List.replicate_zero, Nat.reduceAdd, Nat.reduceSub, ↓reduceIte, Bool.false_eq_true, reduceCtorEq, true_and, and_true, true_or, or_true, false_or, or_false, Bool.not_true, Bool.not_false, Bool.true_and, Bool.false_and, Bool.and_true, decide_eq_true_eq, Bool.not_eq_eq_eq_not, exists_eq_left, exists_eq_left', Option.some.injEq, eH, eP, at_0, at_1, at_gt hi, at_gt hj, flat_int, flat_ints, List.length_map, ixN_nat hi, map_set_int, at_gt hj', ixN_nat hj', nat_le]
  exact ⟨⟨_, rfl⟩, ⟨_, rfl⟩, hA⟩
/-- all pairs of two different ones -/
def pairsOf (n : Nat) : List (Nat × Nat) := (List.range n).flatMap fun i => ((List.range n).filter fun j => decide (j ≠ i)).map fun j => (i, j)
theorem pairs_ok {n : Nat} : OkP n (pairsOf n) := fun s hs => by
  unfold pairsOf at hs
  obtain ⟨i, hi, hs⟩ := List.mem_flatMap.mp hs
  obtain ⟨j, hj, rfl⟩ := List.mem_map.mp hs
  obtain ⟨hj, hn⟩ := List.mem_filter.mp hj
  exact ⟨List.mem_range.mp hi, List.mem_range.mp hj, fun e => of_decide_eq_true hn e.symm⟩
theorem pairs_len : ∀ n, n ≤ 6 → (pairsOf n).length = n * (n - 1) := by decide
def sp_law_pairs : Spc := fun ds A _ => ∃ n : Nat, ds = [.int n] ∧ n ≤ 6 ∧ A (.list ((pairsOf n).map eP))

def w_law_pairs : WS :=
    (wSeq (wSet 1 (wO (wLst wNil)))
    (wSeq (wFor (wR1 (wCons (wV 0) wNil)) (wN 2) (wSet 1 (wOp gAdd (wV 1) (wO (wLc (wR1 (wCons (wV 0) wNil)) (wN 3) (wB (wOp gNe (wV 3) (wV 2))) (wTup (wCons (wV 2) (wCons (wV 3) wNil))) [3])))))
    (wRet (wV 1))))
def pairsTo (n k : Nat) : List (Nat × Nat) := (List.range k).flatMap fun i => ((List.range n).filter fun j => decide (j ≠ i)).map fun j => (i, j)
theorem pairsTo_succ (n k : Nat) : pairsTo n (k + 1) = pairsTo n k ++ ((List.range n).filter fun j => decide (j ≠ k)).map fun j => (k, j) := by
  unfold pairsTo
  rw [List.range_succ, List.flatMap_append]
  simp
theorem pairsTo_le (n : Nat) : ∀ k, (pairsTo n k).length ≤ n * k
  | 0 => by simp [pairsTo]
  | k + 1 => by
    have h1 := pairsTo_le n k
    have h2 := List.length_filter_le (fun j => decide (j ≠ k)) (List.range n)
    rw [List.length_range] at h2
    rw [pairsTo_succ, List.length_append, List.length_map, Nat.mul_succ]
    omega
theorem range_small {n : Nat} (h : n ≤ 6) : -(2 : Int) ^ 62 ≤ (n : Int) ∧ (n : Int) < 2 ^ 62 := by
  have : (2 : Int) ^ 62 = 4611686018427387904 := by decide
  omega
theorem pure_law_pairs : Pure 4 1 sp_law_pairs w_law_pairs := by
  rintro ds A B - ⟨n, rfl, hn, hA⟩
  simp only [w_law_pairs, bl?, g2, gAdd, gDiv, gEq, gGe, gGt, gI, gIn, gInt, gIs, gIsNot, gLe, gLen, gList, gLt, gMM, gMod, gMul, gMulS, gNe, gNotIn, gPow, gSorted, gSub, gIadd, gSum, gTuple, puts, sV, sVs, slotM, wAnd, wApp, wAsg, wAug, wAugI, wB, wC, wCall, wCallR, wChain, wCons, wDraw, wDrop, wEnL, wEnT, wExt, wFn, wFnO, wFor, wGCons, wGNil, wGT, wIL, wIT, wIdx, wIf, wIfS, wIsi, wIx, wLc, wLst, wMNil, wMO, wMV, wMix, wN, wNeg, wNil, wNot, wNotT, wO, wOp, wOr, wOwn, wPar, wR1, wR2, wRaise, wRaiseF, wRet, wSeq, wSet, wSetI, wSkip, wTAnd, wTNot, wTOr, wTru, wTry, wTryF, wTup, wV, wYes, wSplit, wJoin, wRstrip, wFmt, wJNil, wJCons, wJs, gStr, gIntS, wIS, gSignNotIn, wSl, wSlt, wPn, wPs, gMulT, wGL, wTryAs, wXf, wXis, wCat, wCatV, wIxV, startS, List.length_cons, List.length_nil, List.map_cons, List.map_nil, List.getElem?_cons_zero, List.getElem?_cons_succ, List.set_cons_zero, List.set_cons_succ, List.cons_append, List.nil_append, List.append_nil, List.replicate_succ, List.replicate_zero, Nat.reduceAdd, Nat.reduceSub, ↓reduceIte, Bool.false_eq_true, reduceCtorEq, true_and, and_true, true_or, or_true, false_or, or_false, Bool.not_true, Bool.not_false, Bool.true_and, Bool.false_and, Bool.and_true, decide_eq_true_eq, Bool.not_eq_eq_eq_not, exists_eq_left, exists_eq_left', Option.some.injEq]
  refine ⟨by decide, (range_small hn).1, (range_small hn).2, ?_⟩
  rw [rangeD0, Int.toNat_natCast]
  refine for_inv (fun r S => ∃ k s2 s3, k ≤ n ∧ r = ((List.range n).drop k).map (fun (i : Nat) => PyData.int (i : Int)) ∧ S = [.im (.int n), .im (.list ((pairsTo n k).map eP)), s2, s3] ∧ notRng (some s3) = true) _ _ ?_ ⟨0, .un, .un, Nat.zero_le _, by simp, by simp [pairsTo], rfl⟩ ?_
  · rintro d r S ⟨k, s2, s3, hk, er, rfl, hs3⟩ Nx hN
    have hk' : k < n := by
      rcases Nat.lt_or_ge k n with c | c
      · exact c
      · rw [List.drop_eq_nil_of_le (by rw [List.length_range]; exact c)] at er
        cases er
    rw [List.drop_eq_getElem_cons (by rw [List.length_range]; exact hk'), List.getElem_range, List.map_cons] at er
    cases er
    simp only [bl?, g2, gAdd, gDiv, gEq, gGe, gGt, gI, gIn, gInt, gIs, gIsNot, gLe, gLen, gList, gLt, gMM, gMod, gMul, gMulS, gNe, gNotIn, gPow, gSorted, gSub, gIadd, gSum, gTuple, puts, sV, sVs, slotM, wAnd, wApp, wAsg, wAug, wAugI, wB, wC, wCall, wCallR, wChain, wCons, wDraw, wDrop, wEnL, wEnT, wExt, wFn, wFnO, wFor, wGCons, wGNil, wGT, wIL, wIT, wIdx, wIf, wIfS, wIsi, wIx, wLc, wLst, wMNil, wMO, wMV, wMix, wN, wNeg, wNil, wNot, wNotT, wO, wOp, wOr, wOwn, wPar, wR1, wR2, wRaise, wRaiseF, wRet, wSeq, wSet, wSetI, wSkip, wTAnd, wTNot, wTOr, wTru, wTry, wTryF, wTup, wV, wYes, wSplit, wJoin, wRstrip, wFmt, wJNil, wJCons, wJs, gStr, gIntS, wIS, gSignNotIn, wSl, wSlt, wPn, wPs, gMulT, wGL, wTryAs, wXf, wXis, wCat, wCatV, wIxV, startS, List.length_cons, List.length_nil, List.map_cons, List.map_nil, List.getElem?_cons_zero, List.getElem?_cons_succ, List.set_cons_zero, List.set_cons_succ, List.cons_append, List.nil_append, List.append_nil, List.replicate_succ, List.replicate_zero, Nat.reduceAdd, Nat.reduceSub, ↓reduceIte, Bool.false_eq_true, reduceCtorEq, true_and, and_true, true_or, or_true, false_or, or_false, Bool.not_true, Bool.not_false, Bool.true_and, Bool.false_and, Bool.and_true, decide_eq_true_eq, Bool.not_eq_eq_eq_not, exists_eq_left, exists_eq_left', Option.some.injEq, flat_int, List.all_cons, List.all_nil, hs3]
    refine ⟨(range_small hn).1, (range_small hn).2, ?_⟩
    rw [rangeD0, Int.toNat_natCast]
    refine lc_ok (fun (i : Nat) => PyData.int (i : Int)) (fun j => decide (j ≠ k)) (fun j => eP (k, j)) (List.range n) [] True (fun j hj Yes No hy hno => ?_) (by rw [List.length_range]; simp; omega) trivial fun c' hc' => ?_
    · simp only [bl?, g2, gAdd, gDiv, gEq, gGe, gGt, gI, gIn, gInt, gIs, gIsNot, gLe, gLen, gList, gLt, gMM, gMod, gMul, gMulS, gNe, gNotIn, gPow, gSorted, gSub, gIadd, gSum, gTuple, puts, sV, sVs, slotM, wAnd, wApp, wAsg, wAug, wAugI, wB, wC, wCall, wCallR, wChain, wCons, wDraw, wDrop, wEnL, wEnT, wExt, wFn, wFnO, wFor, wGCons, wGNil, wGT, wIL, wIT, wIdx, wIf, wIfS, wIsi, wIx, wLc, wLst, wMNil, wMO, wMV, wMix, wN, wNeg, wNil, wNot, wNotT, wO, wOp, wOr, wOwn, wPar, wR1, wR2, wRaise, wRaiseF, wRet, wSeq, wSet, wSetI, wSkip, wTAnd, wTNot, wTOr, wTru, wTry, wTryF, wTup, wV, wYes, wSplit, wJoin, wRstrip, wFmt, wJNil, wJCons, wJs, gStr, gIntS, wIS, gSignNotIn, wSl, wSlt, wPn, wPs, gMulT, wGL, wTryAs, wXf, wXis, wCat, wCatV, wIxV, startS, List.length_cons, List.length_nil, List.map_cons, List.map_nil, List.getElem?_cons_zero, List.getElem?_cons_succ, List.set_cons_zero, List.set_cons_succ, List.cons_append, List.nil_append, List.append_nil, List.replicate_succ, List.replicate_zero, Nat.reduceAdd, Nat.reduceSub, ↓reduceIte, Bool.false_eq_true, reduceCtorEq, true_and, and_true, true_or, or_true, false_or, or_false, Bool.not_true, Bool.not_false, Bool.true_and, Bool.false_and, Bool.and_true, decide_eq_true_eq, Bool.not_eq_eq_eq_not, exists_eq_left, exists_eq_left', Option.some.injEq, wipeS, flat_int, shaped_int, eqv_int]
      by_cases c : j = k
      · subst c
        simpa using hno (by simp)
      · have c' : ¬ ((j : Int) = k) := by omega
        simp [c']
        exact ⟨by decide, hy (by simpa using c)⟩
    · have hlen : (pairsTo n k).length + ((List.range n).filter fun j => decide (j ≠ k)).length ≤ sizeLine := by
        have h1 := pairsTo_le n k
        have h2 := List.length_filter_le (fun j => decide (j ≠ k)) (List.range n)
        rw [List.length_range] at h2
        have h3 : n * k ≤ 6 * 6 := Nat.mul_le_mul hn (by omega)
        rw [sizeLine_eq]
        omega
      have hf : flats ([] ++ (List.filter (fun j => decide (j ≠ k)) (List.range n)).map fun j => eP (k, j)) = true := by
        rw [List.nil_append]
        exact flats_map (fun j => flat_eP _) _
      refine ⟨by simpa using hlen, .inl (.inr hf), hN _ ⟨k + 1, .im (.int (k : Int)), s3, hk', rfl, ?_, hs3⟩⟩
      rw [pairsTo_succ]
      simp [List.map_append, Function.comp_def]
  · rintro S ⟨k, s2, s3, hk, er, rfl, hs3⟩
    have hk' : k = n := by
      rcases Nat.lt_or_ge k n with c | c
      · rw [List.drop_eq_getElem_cons (by rw [List.length_range]; exact c)] at er
        cases er
      · omega
    subst hk'
    exact hA

/-! the heaps that are drawn -/
theorem lc_each {wg : WTg} {wt : WTx} {we : WEx} {c : Prop} {S : Slots} {K : List PyData → Prop → Prop} (Q : PyData → Prop) : ∀ (ds acc : List PyData) (ca : Prop),
    (∀ d ∈ ds, ∀ Yes : PyData → Prop → Prop, (∀ e, Q e → Yes e True) → ∀ No : Prop, wg d c S fun S1 => wt S1 (fun b S2 => S2 = S1 ∧ if b = true then we S1 (fun e ce S3 => S3 = S1 ∧ Yes e ce) noX else No) noX) →
    acc.length + ds.length ≤ 1000000 → ca → (∀ (zs : List PyData) (c' : Prop), zs.length = ds.length → (∀ z ∈ zs, Q z) → c' → K (acc ++ zs) c') → lcL wg wt we c S ds acc ca K
  | [], acc, ca, _, _, hc, hK => by
    have q := hK [] ca rfl (fun z h => by cases h) hc
    rw [List.append_nil] at q
    exact q
  | d :: ds, acc, ca, h, hl, hc, hK => by
    rw [List.length_cons] at hl
    show wg d c S fun S1 => wt S1 (fun b S2 => S2 = S1 ∧ if b = true then we S1 (fun e ce S3 => S3 = S1 ∧ acc.length < sizeLine ∧ lcL wg wt we c S ds (acc ++ [e]) (ca ∧ (ce ∨ flat e = true)) K) noX else lcL wg wt we c S ds acc ca K) noX
    refine h d List.mem_cons_self (fun e ce => acc.length < sizeLine ∧ lcL wg wt we c S ds (acc ++ [e]) (ca ∧ (ce ∨ flat e = true)) K) (fun e he => ⟨by rw [sizeLine_eq]; omega, ?_⟩) _
    refine lc_each Q ds _ _ (fun x hx => h x (List.mem_cons_of_mem _ hx)) (by rw [List.length_append]; show acc.length + 1 + ds.length ≤ _; omega) ⟨hc, .inl trivial⟩ fun zs c' hz hq hc' => ?_
    have q := hK (e :: zs) c' (by rw [List.length_cons, List.length_cons, hz]) (fun z hz => by
      rcases List.mem_cons.mp hz with k | k
      · rw [k]; exact he
      · exact hq z k) hc'
    rw [List.append_assoc]
    exact q
theorem ints_all : ∀ {zs : List PyData} {P : Int → Prop}, (∀ z ∈ zs, ∃ i, z = .int i ∧ P i) → ∃ ns : List Int, zs = ns.map .int ∧ ∀ n ∈ ns, P n
  | [], P, _ => ⟨[], rfl, fun n h => by cases h⟩
  | z :: zs, P, h => by
    obtain ⟨i, rfl, hi⟩ := h z List.mem_cons_self
    obtain ⟨ns, rfl, hn⟩ := ints_all (zs := zs) fun x hx => h x (List.mem_cons_of_mem _ hx)
    exact ⟨i :: ns, rfl, fun n hm => by
      rcases List.mem_cons.mp hm with k | k
      · rw [k]; exact hi
      · exact hn n k⟩
def sp_law_heaps : Spc := fun ds A _ => ∃ lo hi : Nat, ds = [.int lo, .int hi] ∧ 2 ≤ lo ∧ lo ≤ hi ∧ hi ≤ 6 ∧ ∀ h, OkH h → lo ≤ h.length → h.length ≤ hi → A (eH h)

def w_law_heaps : WS :=
    (wSeq (wSet 3 (wOp gAdd (wV 1) (wDraw 0 (wOp gAdd (wOp gSub (wV 2) (wV 1)) (wC (.int 1))))))
    (wSeq (wSet 4 (wIx (wO (wLst (wCons (wC (.int 4)) (wCons (wC (.int 9)) (wCons (wC (.int 60)) (wCons (wOp gPow (wC (.int 10)) (wC (.int 15))) (wCons (wOp gPow (wC (.int 10)) (wC (.int 29))) wNil))))))) (wDraw 0 (wC (.int 5)))))
    (wSeq (wSet 5 (wIx (wO (wLst (wCons (wC (.int 1)) (wCons (wC (.int 1)) (wCons (wC (.int 2)) (wCons (wC (.int 3)) (wCons (wC (.int 8)) wNil))))))) (wDraw 0 (wC (.int 5)))))
    (wSeq (wOwn 6 (wLc (wR1 (wCons (wV 3) wNil)) (wN 7) wYes (wOp gMul (wV 5) (wDraw 0 (wV 4))) [7]))
    (wSeq (wIfS (wB (wOp gEq (wFn (gMM max) (wCons (wV 6) wNil)) (wC (.int 0)))) (wSetI 6 (wV 5) (wDraw 0 (wV 3))) wSkip)
    (wRet (wFn gTuple (wCons (wV 6) wNil))))))))
theorem atD_nat {xs : List PyData} {i : Nat} {d : PyData} (h : xs[i]? = some d) : atD xs (i : Int) = some d := by
  unfold atD ixN
  have hi := (List.getElem?_eq_some_iff.mp h).1
  rw [if_pos (by omega), if_pos (by omega)]
  show xs[(i : Int).toNat]? = some d
  rw [Int.toNat_natCast]
  exact h
theorem far_of {r : Int} (h0 : 0 ≤ r) (h5 : r < 5) : ∃ z : Int, atD [.int 4, .int 9, .int 60, .int ((10 : Int) ^ (15 : Int).toNat), .int ((10 : Int) ^ (29 : Int).toNat)] r = some (.int z) ∧ 1 ≤ z ∧ z ≤ 100000000000000000000000000000 := by
  have e : r = 0 ∨ r = 1 ∨ r = 2 ∨ r = 3 ∨ r = 4 := by omega
  rcases e with e | e | e | e | e <;> subst e <;> exact ⟨_, rfl, by decide, by decide⟩
theorem part_of {r : Int} (h0 : 0 ≤ r) (h5 : r < 5) : ∃ z : Int, atD [.int 1, .int 1, .int 2, .int 3, .int 8] r = some (.int z) ∧ 1 ≤ z ∧ z ≤ 8 := by
  have e : r = 0 ∨ r = 1 ∨ r = 2 ∨ r = 3 ∨ r = 4 := by omega
  rcases e with e | e | e | e | e <;> subst e <;> exact ⟨_, rfl, by decide, by decide⟩
theorem mul_small {i j : Int} (h1 : 0 ≤ i) (h2 : i ≤ 8) (h3 : 0 ≤ j) (h4 : j ≤ 100000000000000000000000000000) : CMulW i j := by
  refine wide_mul (a := 10) (b := 110) ?_ ?_ (by decide) (by decide) (by decide)
  · have : (2 : Nat) ^ 10 = 1024 := by decide
    omega
  · have : (2 : Nat) ^ 110 = 1298074214633706907132624082305024 := by decide
    omega
theorem pure_law_heaps : PureR 7 2 sp_law_heaps w_law_heaps := by
  rintro ds A B a c - ⟨lo, hi, rfl, l2, llh, l6, hA⟩
  have e31 : (10 : Int) ^ 31 = 10000000000000000000000000000000 := by decide
  have p1 : CPow 10 15 := ⟨by decide, by decide, by decide⟩
  have p2 : CPow 10 29 := ⟨by decide, by decide, by decide⟩
  simp only [w_law_heaps, bl?, g2, gAdd, gDiv, gEq, gGe, gGt, gI, gIn, gInt, gIs, gIsNot, gLe, gLen, gList, gLt, gMM, gMod, gMul, gMulS, gNe, gNotIn, gPow, gSorted, gSub, gIadd, gSum, gTuple, puts, sV, sVs, slotM, wAnd, wApp, wAsg, wAug, wAugI, wB, wC, wCall, wCallR, wChain, wCons, wDraw, wDrop, wEnL, wEnT, wExt, wFn, wFnO, wFor, wGCons, wGNil, wGT, wIL, wIT, wIdx, wIf, wIfS, wIsi, wIx, wLc, wLst, wMNil, wMO, wMV, wMix, wN, wNeg, wNil, wNot, wNotT, wO, wOp, wOr, wOwn, wPar, wR1, wR2, wRaise, wRaiseF, wRet, wSeq, wSet, wSetI, wSkip, wTAnd, wTNot, wTOr, wTru, wTry, wTryF, wTup, wV, wYes, wSplit, wJoin, wRstrip, wFmt, wJNil, wJCons, wJs, gStr, gIntS, wIS, gSignNotIn, wSl, wSlt, wPn, wPs, gMulT, wGL, wTryAs, wXf, wXis, wCat, wCatV, wIxV, startS, List.length_cons, List.length_nil, List.map_cons, List.map_nil, List.getElem?_cons_zero, List.getElem?_cons_succ, List.set_cons_zero, List.set_cons_succ, List.cons_append, List.nil_append, List.append_nil, List.replicate_succ, List.replicate_zero, Nat.reduceAdd, Nat.reduceSub, ↓reduceIte, Bool.false_eq_true, reduceCtorEq, true_and, and_true, true_or, or_true, false_or, or_false, Bool.not_true, Bool.not_false, Bool.true_and, Bool.false_and, Bool.and_true, decide_eq_true_eq, Bool.not_eq_eq_eq_not, exists_eq_left, exists_eq_left', Option.some.injEq]
  refine ⟨a, c, rfl, rfl, by omega, by rw [e31]; omega, fun r r0 r1 => ?_⟩
  obtain ⟨n, hn⟩ : ∃ n : Nat, (lo : Int) + r = n := ⟨((lo : Int) + r).toNat, by omega⟩
  simp only [hn]
  have n2 : lo ≤ n := by omega
  have n6 : n ≤ hi := by omega
  refine ⟨p1, p2, by decide, a, c, rfl, rfl, by decide, by rw [e31]; decide, fun r r0 r1 => ?_⟩
  obtain ⟨far, ef, f1, f2⟩ := far_of r0 r1
  simp only [ef, startS, List.length_cons, List.length_nil, List.map_cons, List.map_nil, List.getElem?_cons_zero, List.getElem?_cons_succ, List.set_cons_zero, List.set_cons_succ, List.cons_append, List.nil_append, List.append_nil, List.replicate_succ, List.replicate_zero, Nat.reduceAdd, Nat.reduceSub, ↓reduceIte, Bool.false_eq_true, reduceCtorEq, true_and, and_true, true_or, or_true, false_or, or_false, Bool.not_true, Bool.not_false, Bool.true_and, Bool.false_and, Bool.and_true, decide_eq_true_eq, Bool.not_eq_eq_eq_not, exists_eq_left, exists_eq_left', Option.some.injEq, flat_int]
  refine ⟨by decide, a, c, rfl, rfl, by decide, by rw [e31]; decide, fun r r0 r1 => ?_⟩
  obtain ⟨part, ep, g1, g2⟩ := part_of r0 r1
  simp only [ep, startS, List.length_cons, List.length_nil, List.map_cons, List.map_nil, List.getElem?_cons_zero, List.getElem?_cons_succ, List.set_cons_zero, List.set_cons_succ, List.cons_append, List.nil_append, List.append_nil, List.replicate_succ, List.replicate_zero, Nat.reduceAdd, Nat.reduceSub, ↓reduceIte, Bool.false_eq_true, reduceCtorEq, true_and, and_true, true_or, or_true, false_or, or_false, Bool.not_true, Bool.not_false, Bool.true_and, Bool.false_and, Bool.and_true, decide_eq_true_eq, Bool.not_eq_eq_eq_not, exists_eq_left, exists_eq_left', Option.some.injEq, flat_int]
  refine ⟨(range_small (by omega)).1, (range_small (by omega)).2, by simp [notRng, isMut], ?_⟩
  rw [rangeD0, Int.toNat_natCast]
  refine lc_each (fun d => ∃ i, d = .int i ∧ 0 ≤ i ∧ i ≤ 8 * 100000000000000000000000000000) _ [] True (fun d hd Yes hy No => ?_) (by simp; omega) trivial fun zs c' hz hq hc' => ?_
  · obtain ⟨i, _, rfl⟩ := List.mem_map.mp hd
    simp only [bl?, g2, gAdd, gDiv, gEq, gGe, gGt, gI, gIn, gInt, gIs, gIsNot, gLe, gLen, gList, gLt, gMM, gMod, gMul, gMulS, gNe, gNotIn, gPow, gSorted, gSub, gIadd, gSum, gTuple, puts, sV, sVs, slotM, wAnd, wApp, wAsg, wAug, wAugI, wB, wC, wCall, wCallR, wChain, wCons, wDraw, wDrop, wEnL, wEnT, wExt, wFn, wFnO, wFor, wGCons, wGNil, wGT, wIL, wIT, wIdx, wIf, wIfS, wIsi, wIx, wLc, wLst, wMNil, wMO, wMV, wMix, wN, wNeg, wNil, wNot, wNotT, wO, wOp, wOr, wOwn, wPar, wR1, wR2, wRaise, wRaiseF, wRet, wSeq, wSet, wSetI, wSkip, wTAnd, wTNot, wTOr, wTru, wTry, wTryF, wTup, wV, wYes, wSplit, wJoin, wRstrip, wFmt, wJNil, wJCons, wJs, gStr, gIntS, wIS, gSignNotIn, wSl, wSlt, wPn, wPs, gMulT, wGL, wTryAs, wXf, wXis, wCat, wCatV, wIxV, startS, List.length_cons, List.length_nil, List.map_cons, List.map_nil, List.getElem?_cons_zero, List.getElem?_cons_succ, List.set_cons_zero, List.set_cons_succ, List.cons_append, List.nil_append, List.append_nil, List.replicate_succ, List.replicate_zero, Nat.reduceAdd, Nat.reduceSub, ↓reduceIte, Bool.false_eq_true, reduceCtorEq, true_and, and_true, true_or, or_true, false_or, or_false, Bool.not_true, Bool.not_false, Bool.true_and, Bool.false_and, Bool.and_true, decide_eq_true_eq, Bool.not_eq_eq_eq_not, exists_eq_left, exists_eq_left', Option.some.injEq, wipeS, flat_int]
    refine ⟨a, c, rfl, rfl, f1, by rw [e31]; omega, fun r r0 r1 => ⟨mul_small (by omega) g2 r0 (by omega), hy _ ⟨_, rfl, Int.mul_nonneg (by omega) r0, Int.mul_le_mul g2 (by omega) r0 (by omega)⟩⟩⟩
  · obtain ⟨ns, rfl, hns⟩ := ints_all hq
    rw [List.nil_append]
    rw [List.length_map, List.length_map, List.length_range] at hz
    have hne : ∃ x xs, ns = x :: xs := by
      cases ns with
      | nil => simp at hz; omega
      | cons x xs => exact ⟨x, xs, rfl⟩
    obtain ⟨x, xs, ens⟩ := hne
    simp only [bl?, g2, gAdd, gDiv, gEq, gGe, gGt, gI, gIn, gInt, gIs, gIsNot, gLe, gLen, gList, gLt, gMM, gMod, gMul, gMulS, gNe, gNotIn, gPow, gSorted, gSub, gIadd, gSum, gTuple, puts, sV, sVs, slotM, wAnd, wApp, wAsg, wAug, wAugI, wB, wC, wCall, wCallR, wChain, wCons, wDraw, wDrop, wEnL, wEnT, wExt, wFn, wFnO, wFor, wGCons, wGNil, wGT, wIL, wIT, wIdx, wIf, wIfS, wIsi, wIx, wLc, wLst, wMNil, wMO, wMV, wMix, wN, wNeg, wNil, wNot, wNotT, wO, wOp, wOr, wOwn, wPar, wR1, wR2, wRaise, wRaiseF, wRet, wSeq, wSet, wSetI, wSkip, wTAnd, wTNot, wTOr, wTru, wTry, wTryF, wTup, wV, wYes, wSplit, wJoin, wRstrip, wFmt, wJNil, wJCons, wJs, gStr, gIntS, wIS, gSignNotIn, wSl, wSlt, wPn, wPs, gMulT, wGL, wTryAs, wXf, wXis, wCat, wCatV, wIxV, startS, List.length_cons, List.length_nil, List.map_cons, List.map_nil, List.getElem?_cons_zero, List.getElem?_cons_succ, List.set_cons_zero, List.set_cons_succ, List.cons_append, List.nil_append, List.append_nil, List.replicate_succ, List.replicate_zero, Nat.reduceAdd, Nat.reduceSub, ↓reduceIte, Bool.false_eq_true, reduceCtorEq, true_and, and_true, true_or, or_true, false_or, or_false, Bool.not_true, Bool.not_false, Bool.true_and, Bool.false_and, Bool.and_true, decide_eq_true_eq, Bool.not_eq_eq_eq_not, exists_eq_left, exists_eq_left', Option.some.injEq, flat_ints]
    refine ⟨x, xs, by rw [ens]; exact ints?_map (x :: xs), shaped_int _, shaped_int _, ?_⟩
    rw [eqv_int]
    obtain ⟨g1', g2'⟩ := fold_max_ge xs x
    have hm : ∀ y ∈ ns, y ≤ xs.foldl max x := fun y hy => by
      rw [ens] at hy
      rcases List.mem_cons.mp hy with z | z
      · rw [z]; exact g1'
      · exact g2' y z
    by_cases c0 : xs.foldl max x = 0
    · rw [if_pos (decide_eq_true c0)]
      refine ⟨⟨_, rfl⟩, a, c, rfl, rfl, by omega, by rw [e31]; omega, fun r r0 r1 => ?_⟩
      obtain ⟨j, rfl⟩ := Int.eq_ofNat_of_zero_le r0
      have hj : j < ns.length := by omega
      simp only [startS, List.length_cons, List.length_nil, List.map_cons, List.map_nil, List.getElem?_cons_zero, List.getElem?_cons_succ, List.set_cons_zero, List.set_cons_succ, List.cons_append, List.nil_append, List.append_nil, List.replicate_succ, List.replicate_zero, Nat.reduceAdd, Nat.reduceSub, ↓reduceIte, Bool.false_eq_true, reduceCtorEq, true_and, and_true, true_or, or_true, false_or, or_false, Bool.not_true, Bool.not_false, Bool.true_and, Bool.false_and, Bool.and_true, decide_eq_true_eq, Bool.not_eq_eq_eq_not, exists_eq_left, exists_eq_left', Option.some.injEq, List.length_map]
      refine ⟨j, by exact ixN_nat hj, ?_⟩
      rw [map_set_int]
      refine (hA _ ⟨by rw [List.length_set]; omega, by rw [List.length_set]; omega, fun y hy => ?_, part, List.mem_set hj _, by omega⟩ (by rw [List.length_set]; omega) (by rw [List.length_set]; omega))
      rcases List.mem_or_eq_of_mem_set hy with z | z
      · have := hns y z; have : big = 1000000000000000000000000000000 := rfl; omega
      · have : big = 1000000000000000000000000000000 := rfl; omega
    · rw [if_neg (by simpa using c0)]
      refine (hA _ ⟨by omega, by omega, fun y hy => by have := hns y hy; have : big = 1000000000000000000000000000000 := rfl; omega, xs.foldl max x, ?_, c0⟩ (by omega) (by omega))
      rw [ens]
      rcases fold_max_in xs x with q | q
      · rw [q]; exact List.mem_cons_self
      · exact List.mem_cons_of_mem _ q
end Pu


namespace Pu
open PySem L2

/-! ### steps that can be made -/
def stepsOf (h : List Int) : List (Nat × Nat) := (pairsOf h.length).filter (can h)
theorem stepsOf_ok {h : List Int} {s : Nat × Nat} (hs : s ∈ stepsOf h) : okS h.length s ∧ can h s = true := ⟨pairs_ok s (List.mem_filter.mp hs).1, (List.mem_filter.mp hs).2⟩

/-! ### heaps of a kind: n of them, their sum t -/
structure Std (n : Nat) (t : Int) (h : List Int) : Prop where
  ln : h.length = n
  nn : ∀ x ∈ h, 0 ≤ x
  sm : h.sum = t
theorem sum_set : ∀ (l : List Int) (i : Nat) (x : Int), i < l.length → (l.set i x).sum = l.sum - l.getD i 0 + x
  | a :: l, 0, x, _ => by simp; omega
  | a :: l, i + 1, x, h => by
    rw [List.set_cons_succ, List.sum_cons, List.sum_cons, sum_set l i x (by simpa using h)]
    simp
    omega
theorem gt_set_ne {l : List Int} {i j : Nat} {x : Int} (h : i ≠ j) : gt (l.set i x) j = gt l j := by
  unfold gt
  rw [List.getD_eq_getElem?_getD, List.getD_eq_getElem?_getD, List.getElem?_set_ne h]
theorem gt_nn {h : List Int} (hn : ∀ x ∈ h, 0 ≤ x) (i : Nat) : 0 ≤ gt h i := by
  unfold gt
  rw [List.getD_eq_getElem?_getD]
  cases e : h[i]? with
  | none => exact Int.le_refl 0
  | some x => exact hn x (List.mem_of_getElem? e)
theorem mem_set_or {α : Type} {l : List α} {i : Nat} {x y : α} (h : y ∈ l.set i x) : y = x ∨ y ∈ l := by
  rcases List.mem_or_eq_of_mem_set h with z | z
  · exact .inr z
  · exact .inl z
theorem beh_std {n : Nat} {t : Int} {h : List Int} {s : Nat × Nat} (o : Std n t h) (hs : s ∈ stepsOf h) : Std n t (beh h s) := by
  obtain ⟨⟨h1, h2, h3⟩, hc⟩ := stepsOf_ok hs
  unfold can at hc
  simp only [Bool.and_eq_true, decide_eq_true_eq] at hc
  refine ⟨by rw [beh_len]; exact o.ln, fun x hx => ?_, ?_⟩
  · unfold beh at hx
    have g2 := gt_nn o.nn s.2
    rw [gt_set_ne h3] at hx
    rcases mem_set_or hx with z | z
    · omega
    · rcases mem_set_or z with z | z
      · omega
      · exact o.nn x z
  · unfold beh
    rw [sum_set _ _ _ (by rw [List.length_set]; exact h2), sum_set _ _ _ h1]
    rw [gt_set_ne h3]
    have e1 : (h.set s.1 (gt h s.1 - gt h s.2)).getD s.2 0 = gt h s.2 := gt_set_ne h3
    have e2 : h.getD s.1 0 = gt h s.1 := rfl
    rw [e1, e2, o.sm]
    omega
theorem sum_nn : ∀ {l : List Int}, (∀ x ∈ l, 0 ≤ x) → 0 ≤ l.sum
  | [], _ => by simp
  | a :: l, h => by
    rw [List.sum_cons]
    have := h a List.mem_cons_self
    have := sum_nn (l := l) fun x hx => h x (List.mem_cons_of_mem _ hx)
    omega
theorem le_sum : ∀ {l : List Int}, (∀ x ∈ l, 0 ≤ x) → ∀ x ∈ l, x ≤ l.sum
  | a :: l, h, x, hx => by
    rw [List.sum_cons]
    have h0 := sum_nn (l := l) fun x hx => h x (List.mem_cons_of_mem _ hx)
    have h1 := h a List.mem_cons_self
    rcases List.mem_cons.mp hx with z | z
    · rw [z]; omega
    · have := le_sum (l := l) (fun x hx => h x (List.mem_cons_of_mem _ hx)) x z
      omega

/-! ### how many there can be -/
theorem nd_len : ∀ (N : Nat) (l : List Nat), l.Nodup → (∀ x ∈ l, x < N) → l.length ≤ N
  | 0, l, _, h => by
    cases l with
    | nil => exact Nat.le_refl 0
    | cons a r => exact absurd (h a List.mem_cons_self) (Nat.not_lt_zero _)
  | N + 1, l, hn, h => by
    by_cases hm : N ∈ l
    · have q := nd_len N (l.erase N) (hn.erase N) fun x hx => by
        have h1 := (hn.mem_erase_iff).mp hx
        have := h x h1.2
        omega
      rw [List.length_erase_of_mem hm] at q
      omega
    · have q := nd_len N l hn fun x hx => by
        have := h x hx
        have : x ≠ N := fun z => hm (by rw [← z]; exact hx)
        omega
      omega
def enc (h : List Int) : Nat := h.foldr (fun x a => x.toNat + 41 * a) 0
theorem enc_lt : ∀ {h : List Int}, (∀ x ∈ h, 0 ≤ x ∧ x ≤ 40) → enc h < 41 ^ h.length
  | [], _ => by decide
  | a :: r, h => by
    have h1 := h a List.mem_cons_self
    have h2 := enc_lt (h := r) fun x hx => h x (List.mem_cons_of_mem _ hx)
    show a.toNat + 41 * enc r < 41 ^ (r.length + 1)
    rw [Nat.pow_succ]
    omega
theorem enc_inj : ∀ {g h : List Int}, (∀ x ∈ g, 0 ≤ x ∧ x ≤ 40) → (∀ x ∈ h, 0 ≤ x ∧ x ≤ 40) → g.length = h.length → enc g = enc h → g = h
  | [], [], _, _, _, _ => rfl
  | [], _ :: _, _, _, l, _ => by simp at l
  | _ :: _, [], _, _, l, _ => by simp at l
  | a :: r, b :: q, h1, h2, l, e => by
    have a1 := h1 a List.mem_cons_self
    have b1 := h2 b List.mem_cons_self
    have e' : a.toNat + 41 * enc r = b.toNat + 41 * enc q := e
    have e1 : a = b := by omega
    have e2 : enc r = enc q := by omega
    rw [e1, enc_inj (fun x hx => h1 x (List.mem_cons_of_mem _ hx)) (fun x hx => h2 x (List.mem_cons_of_mem _ hx)) (by simpa using l) e2]
theorem std_many {n : Nat} {t : Int} {l : List (List Int)} (hn : n ≤ 4) (ht : t ≤ 40) (nd : l.Nodup) (h : ∀ x ∈ l, Std n t x) : l.length ≤ 68921 := by
  have b : ∀ x ∈ l, ∀ y ∈ x, 0 ≤ y ∧ y ≤ 40 := fun x hx y hy => ⟨(h x hx).nn y hy, by have := le_sum (h x hx).nn y hy; have := (h x hx).sm; omega⟩
  have bt : ∀ x ∈ l, ∀ y ∈ x.tail, 0 ≤ y ∧ y ≤ 40 := fun x hx y hy => b x hx y (List.mem_of_mem_tail hy)
  have nd' : (l.map fun x => enc x.tail).Nodup := by
    rw [List.nodup_iff_pairwise_ne, List.pairwise_map]
    refine List.Pairwise.imp_of_mem ?_ (List.nodup_iff_pairwise_ne.mp nd)
    intro x y hx hy ne e
    have lx := (h x hx).ln
    have ly := (h y hy).ln
    have et := enc_inj (bt x hx) (bt y hy) (by rw [List.length_tail, List.length_tail, lx, ly]) e
    refine ne ?_
    have sx := (h x hx).sm
    have sy := (h y hy).sm
    cases x with
    | nil =>
      cases y with
      | nil => rfl
      | cons b q => rw [← lx] at ly; simp at ly
    | cons a r =>
      cases y with
      | nil => rw [← lx] at ly; simp at ly
      | cons b q =>
        have et' : r = q := et
        subst et'
        rw [List.sum_cons] at sx sy
        have : a = b := by omega
        rw [this]
  have q := nd_len (41 ^ 3) (l.map fun x => enc x.tail) nd' fun x hx => by
    obtain ⟨y, hy, rfl⟩ := List.mem_map.mp hx
    have h1 := enc_lt (bt y hy)
    have ly := (h y hy).ln
    rw [List.length_tail] at h1
    exact Nat.lt_of_lt_of_le h1 (Nat.pow_le_pow_right (by decide) (by omega))
  rw [List.length_map] at q
  exact q

/-! ### a dict whose keys are heaps -/
def eD {α : Type} (key : α → List Int) (val : α → PyData) (F : List α) : Es := F.map fun e => (eH (key e), val e)
theorem eqAs_ints : ∀ a b : List Int, eqAs (a.map PyData.int) (b.map PyData.int) = decide (a = b)
  | [], [] => rfl
  | [], _ :: _ => by simp [eqAs]
  | _ :: _, [] => by simp [eqAs]
  | x :: xs, y :: ys => by
    rw [List.map_cons, List.map_cons]
    simp only [eqAs, eqA, eqAs_ints xs ys, List.cons.injEq, Bool.decide_and]
theorem eqK_eH (a b : List Int) : eqK (eH a) (eH b) = decide (a = b) := eqAs_ints a b
theorem isKT_eH (a : List Int) : isKT (eH a) = true := by
  show (a.map PyData.int).all isA = true
  rw [List.all_eq_true]
  intro x hx
  obtain ⟨i, _, rfl⟩ := List.mem_map.mp hx
  rfl
section
variable {α : Type} {key : α → List Int} {val : α → PyData}
theorem eD_dE : ∀ F : List α, dE (eD key val F) = eD key val F ∧ isMk (eD key val F) = false
  | [] => ⟨rfl, rfl⟩
  | _ :: _ => ⟨rfl, rfl⟩
theorem eD_ok (F : List α) (h : List Int) : okK (eD key val F) (eH h) = true := by
  unfold okK
  rw [(eD_dE F).2]
  exact isKT_eH h
def fd (key : α → List Int) (F : List α) (h : List Int) : Option α := F.find? fun e => decide (key e = h)
theorem eD_look (F : List α) (h : List Int) : lookE (dE (eD key val F)) (eH h) = (fd key F h).map val := by
  rw [(eD_dE F).1]
  unfold lookE eD fd
  induction F with
  | nil => rfl
  | cons a r ih =>
    rw [List.map_cons, List.find?_cons, List.find?_cons, eqK_eH]
    by_cases e : key a = h
    · rw [decide_eq_true e]; rfl
    · rw [decide_eq_false e]; exact ih
theorem eD_len (F : List α) : (eD key val F).length = F.length := List.length_map _
theorem eD_keys (F : List α) : keysD (eD key val F) = F.map fun e => eH (key e) := by
  unfold keysD
  rw [(eD_dE F).1]
  unfold eD
  rw [List.map_map]
  rfl
theorem eD_new (F : List α) {h : List Int} {v : PyData} (hn : fd key F h = none) : putD (eD key val F) (eH h) v = eD key val F ++ [(eH h, v)] := by
  unfold putD putE
  rw [(eD_dE F).2, if_neg Bool.false_ne_true, if_neg]
  rw [List.any_eq_true]
  rintro ⟨x, hx, e⟩
  unfold eD at hx
  obtain ⟨y, hy, rfl⟩ := List.mem_map.mp hx
  rw [eqK_eH] at e
  have q := List.find?_eq_none.mp hn y hy
  exact q e
theorem fd_mem {F : List α} {h : List Int} {e : α} (hf : fd key F h = some e) : e ∈ F ∧ key e = h := by
  refine ⟨List.mem_of_find?_eq_some hf, ?_⟩
  have := List.find?_some hf
  simpa using this
theorem fd_app {F G : List α} {h : List Int} {e : α} (hf : fd key F h = some e) : fd key (F ++ G) h = some e := by
  unfold fd at hf ⊢
  rw [List.find?_append, hf]
  rfl
theorem fd_none {F : List α} {h : List Int} (hf : fd key F h = none) : ∀ e ∈ F, key e ≠ h := fun e he => by
  have := List.find?_eq_none.mp hf e he
  simpa using this
theorem fd_of {F : List α} {h : List Int} {e : α} (nd : (F.map key).Nodup) (he : e ∈ F) (hk : key e = h) : fd key F h = some e := by
  cases hf : fd key F h with
  | none => exact absurd hk (fd_none hf e he)
  | some e' =>
    obtain ⟨h1, h2⟩ := fd_mem hf
    have : e' = e := by
      induction F with
      | nil => cases he
      | cons a r ih =>
        rw [List.map_cons, List.nodup_cons] at nd
        rcases List.mem_cons.mp he with z | z
        · rcases List.mem_cons.mp h1 with y | y
          · rw [y, z]
          · exact absurd (List.mem_map.mpr ⟨e', y, by rw [h2, ← hk, z]⟩) nd.1
        · rcases List.mem_cons.mp h1 with y | y
          · exact absurd (List.mem_map.mpr ⟨e, z, by rw [hk, ← h2, y]⟩) nd.1
          · refine ih nd.2 z ?_ y
            exact (by
              cases hq : fd key r h with
              | none => exact absurd h2 (fd_none hq e' y)
              | some w =>
                have w1 := fd_mem hq
                unfold fd at hf
                rw [List.find?_cons] at hf
                have na : ¬ key a = h := fun z' => nd.1 (List.mem_map.mpr ⟨e, z, by rw [hk, z']⟩)
                rw [decide_eq_false na] at hf
                unfold fd at hq
                rw [hq] at hf
                exact hf)
    rw [this]
end
end Pu


namespace Pu
open PySem L2
def m_BadStep : Str → Option Bool := fun x => if x = "BadStep" then some true else none
/-- a def whose first parameter is an object of the class at C -/
def PureO (C : Addr) (n m : Nat) (sp : SpO) (w : WS) : Prop := ∀ (fs : Fs) (ds : List PyData) (A : PyData → Fs → Prop) (B : XC → Fs → Prop) (a dx : Addr), ds.length = m → sp fs ds A B →
  w (.ob a dx C fs :: startS n ds) ⟨fun S => ∃ fs', S[0]? = some (.ob a dx C fs') ∧ A .none fs', fun d _ S => ∃ fs', S[0]? = some (.ob a dx C fs') ∧ A d fs', fun _ => False, fun _ => False, fun x S => ∃ fs', S[0]? = some (.ob a dx C fs') ∧ B x fs'⟩
def fsG (p d : PyData) : Fs := [("past", p), ("done", d)]
abbrev fsD (ps : List (List Int)) (dn : List (Nat × Nat)) : Fs := fsG (.tuple (ps.map eH)) (.tuple (dn.map eP))
theorem pd_ne : (("past" : Str) = "done") = False := by simp; decide
theorem lk_past (p d : PyData) : List.lookup ("past" : Str) (fsG p d) = some p := rfl
theorem lk_done (p d : PyData) : List.lookup ("done" : Str) (fsG p d) = some d := by
  unfold fsG
  rw [List.lookup_cons]
  have e : (("done" : Str) == "past") = false := by decide
  rw [e]
  rfl
theorem put_past (p d x : PyData) : putFd "past" x (fsG p d) = fsG x d := by
  unfold fsG putFd
  rw [if_pos rfl]
theorem put_done (p d x : PyData) : putFd "done" x (fsG p d) = fsG p x := by
  unfold fsG putFd
  rw [if_neg (by decide)]
  unfold putFd
  rw [if_pos rfl]
theorem len_fsG (p d : PyData) : List.length (fsG p d) < 1000 := by show 2 < 1000; decide
theorem ffl_fsG {p d : PyData} (h1 : flat p = true) (h2 : flat d = true) : ffl (fsG p d) = true := by unfold ffl fsG; simp [h1, h2]
theorem flats_Hs (ps : List (List Int)) : flats (ps.map eH) = true := flats_map flat_eH ps
theorem flats_Ps (dn : List (Nat × Nat)) : flats (dn.map eP) = true := flats_map flat_eP dn
theorem atD_lastH {ps : List (List Int)} {h : List Int} (e : ps.getLast? = some h) : atD (ps.map eH) (-1) = some (eH h) := by
  have hn : ps ≠ [] := fun z => by rw [z] at e; cases e
  have hl := List.length_pos_iff.mpr hn
  unfold atD
  have e1 : ixN (ps.map eH).length (-1) = some (ps.length - 1) := by
    unfold ixN
    rw [List.length_map, if_neg (by decide), if_pos (by omega)]
    congr 1
    omega
  rw [e1]
  show (ps.map eH)[ps.length - 1]? = _
  rw [List.getLast?_eq_getElem?] at e
  rw [List.getElem?_map, e]
  rfl

def w_Desk___init__ (C : Addr) : WS :=
    (wSeq (wDrop (wCall sp_check_heaps (wCons (wV 1) wNil)))
    (wSeq (wFldS C 0 "past" (wTup (wCons (wV 1) wNil)))
    (wFldS C 0 "done" (wTup wNil))))
def sp_Desk___init__ : SpO := fun fs ds A _ => ∃ h, fs = [] ∧ ds = [eH h] ∧ OkH h ∧ A .none (fsD [h] [])
theorem pure_Desk___init__ (C : Addr) : PureO C 1 1 sp_Desk___init__ (w_Desk___init__ C) := by
  rintro fs ds A B a dx - ⟨h, rfl, rfl, o, hA⟩
  simp only [w_Desk___init__, bl?, g2, gAdd, gDiv, gEq, gGe, gGt, gI, gIn, gInt, gIs, gIsNot, gLe, gLen, gList, gLt, gMM, gMod, gMul, gMulS, gNe, gNotIn, gPow, gSorted, gSub, gIadd, gSum, gTuple, puts, sV, sVs, slotM, wAnd, wApp, wAsg, wAug, wAugI, wB, wC, wCall, wCallR, wChain, wCons, wDraw, wDrop, wEnL, wEnT, wExt, wFn, wFnO, wFor, wGCons, wGNil, wGT, wIL, wIT, wIdx, wIf, wIfS, wIsi, wIx, wLc, wLst, wMNil, wMO, wMV, wMix, wN, wNeg, wNil, wNot, wNotT, wO, wOp, wOr, wOwn, wPar, wR1, wR2, wRaise, wRaiseF, wRet, wSeq, wSet, wSetI, wSkip, wTAnd, wTNot, wTOr, wTru, wTry, wTryF, wTup, wV, wYes, wSplit, wJoin, wRstrip, wFmt, wJNil, wJCons, wJs, gStr, gIntS, wIS, gSignNotIn, wSl, wSlt, wPn, wPs, gMulT, wGL, wTryAs, wXf, wXis, wCat, wCatV, wIxV, wDGet, wDIn, wDInT, wDGet2, wDPut, wDisp1, wOwnD, wMD, wForD, wLcD, wFz, wMv, wMinD, gListD, fzS, wDK, wDT, wFldO, wFldS, wMeth, wProp, wLenO, wCallO, wMake, wNewOb, wNewObL, wMethC, startS, List.length_cons, List.length_nil, List.map_cons, List.map_nil, List.getElem?_cons_zero, List.getElem?_cons_succ, List.set_cons_zero, List.set_cons_succ, List.cons_append, List.nil_append, List.append_nil, List.replicate_succ, List.replicate_zero, Nat.reduceAdd, Nat.reduceSub, ↓reduceIte, Bool.false_eq_true, reduceCtorEq, true_and, and_true, true_or, or_true, false_or, or_false, Bool.not_true, Bool.not_false, Bool.true_and, Bool.false_and, Bool.and_true, decide_eq_true_eq, Bool.not_eq_eq_eq_not, exists_eq_left, exists_eq_left', Option.some.injEq]
  refine check_ok o ?_
  exact ⟨by decide, by decide, by decide, by show 1 < 1000; decide, _, rfl, hA⟩

def w_Desk_heaps (C : Addr) : WS :=
    (wRet (wIx (wFldO C 0 "past") (wNeg (wC (.int 1)))))
def sp_Desk_heaps : SpO := fun fs ds A _ => ∃ ps dn h, fs = fsD ps dn ∧ ds = [] ∧ ps.getLast? = some h ∧ A (eH h) (fsD ps dn)
theorem pure_Desk_heaps (C : Addr) : PureO C 0 0 sp_Desk_heaps (w_Desk_heaps C) := by
  rintro fs ds A B a dx - ⟨ps, dn, h, rfl, rfl, hl, hA⟩
  simp only [w_Desk_heaps, bl?, g2, gAdd, gDiv, gEq, gGe, gGt, gI, gIn, gInt, gIs, gIsNot, gLe, gLen, gList, gLt, gMM, gMod, gMul, gMulS, gNe, gNotIn, gPow, gSorted, gSub, gIadd, gSum, gTuple, puts, sV, sVs, slotM, wAnd, wApp, wAsg, wAug, wAugI, wB, wC, wCall, wCallR, wChain, wCons, wDraw, wDrop, wEnL, wEnT, wExt, wFn, wFnO, wFor, wGCons, wGNil, wGT, wIL, wIT, wIdx, wIf, wIfS, wIsi, wIx, wLc, wLst, wMNil, wMO, wMV, wMix, wN, wNeg, wNil, wNot, wNotT, wO, wOp, wOr, wOwn, wPar, wR1, wR2, wRaise, wRaiseF, wRet, wSeq, wSet, wSetI, wSkip, wTAnd, wTNot, wTOr, wTru, wTry, wTryF, wTup, wV, wYes, wSplit, wJoin, wRstrip, wFmt, wJNil, wJCons, wJs, gStr, gIntS, wIS, gSignNotIn, wSl, wSlt, wPn, wPs, gMulT, wGL, wTryAs, wXf, wXis, wCat, wCatV, wIxV, wDGet, wDIn, wDInT, wDGet2, wDPut, wDisp1, wOwnD, wMD, wForD, wLcD, wFz, wMv, wMinD, gListD, fzS, wDK, wDT, wFldO, wFldS, wMeth, wProp, wLenO, wCallO, wMake, wNewOb, wNewObL, wMethC, startS, List.length_cons, List.length_nil, List.map_cons, List.map_nil, List.getElem?_cons_zero, List.getElem?_cons_succ, List.set_cons_zero, List.set_cons_succ, List.cons_append, List.nil_append, List.append_nil, List.replicate_succ, List.replicate_zero, Nat.reduceAdd, Nat.reduceSub, ↓reduceIte, Bool.false_eq_true, reduceCtorEq, true_and, and_true, true_or, or_true, false_or, or_false, Bool.not_true, Bool.not_false, Bool.true_and, Bool.false_and, Bool.and_true, decide_eq_true_eq, Bool.not_eq_eq_eq_not, exists_eq_left, exists_eq_left', Option.some.injEq, lk_past]
  exact ⟨_, atD_lastH hl, _, rfl, hA⟩

def w_Desk_plan (C : Addr) : WS :=
    (wRet (wFldO C 0 "done"))
def sp_Desk_plan : SpO := fun fs ds A _ => ∃ ps dn, fs = fsD ps dn ∧ ds = [] ∧ A (.tuple (dn.map eP)) (fsD ps dn)
theorem pure_Desk_plan (C : Addr) : PureO C 0 0 sp_Desk_plan (w_Desk_plan C) := by
  rintro fs ds A B a dx - ⟨ps, dn, rfl, rfl, hA⟩
  simp only [w_Desk_plan, bl?, g2, gAdd, gDiv, gEq, gGe, gGt, gI, gIn, gInt, gIs, gIsNot, gLe, gLen, gList, gLt, gMM, gMod, gMul, gMulS, gNe, gNotIn, gPow, gSorted, gSub, gIadd, gSum, gTuple, puts, sV, sVs, slotM, wAnd, wApp, wAsg, wAug, wAugI, wB, wC, wCall, wCallR, wChain, wCons, wDraw, wDrop, wEnL, wEnT, wExt, wFn, wFnO, wFor, wGCons, wGNil, wGT, wIL, wIT, wIdx, wIf, wIfS, wIsi, wIx, wLc, wLst, wMNil, wMO, wMV, wMix, wN, wNeg, wNil, wNot, wNotT, wO, wOp, wOr, wOwn, wPar, wR1, wR2, wRaise, wRaiseF, wRet, wSeq, wSet, wSetI, wSkip, wTAnd, wTNot, wTOr, wTru, wTry, wTryF, wTup, wV, wYes, wSplit, wJoin, wRstrip, wFmt, wJNil, wJCons, wJs, gStr, gIntS, wIS, gSignNotIn, wSl, wSlt, wPn, wPs, gMulT, wGL, wTryAs, wXf, wXis, wCat, wCatV, wIxV, wDGet, wDIn, wDInT, wDGet2, wDPut, wDisp1, wOwnD, wMD, wForD, wLcD, wFz, wMv, wMinD, gListD, fzS, wDK, wDT, wFldO, wFldS, wMeth, wProp, wLenO, wCallO, wMake, wNewOb, wNewObL, wMethC, startS, List.length_cons, List.length_nil, List.map_cons, List.map_nil, List.getElem?_cons_zero, List.getElem?_cons_succ, List.set_cons_zero, List.set_cons_succ, List.cons_append, List.nil_append, List.append_nil, List.replicate_succ, List.replicate_zero, Nat.reduceAdd, Nat.reduceSub, ↓reduceIte, Bool.false_eq_true, reduceCtorEq, true_and, and_true, true_or, or_true, false_or, or_false, Bool.not_true, Bool.not_false, Bool.true_and, Bool.false_and, Bool.and_true, decide_eq_true_eq, Bool.not_eq_eq_eq_not, exists_eq_left, exists_eq_left', Option.some.injEq, lk_done]
  exact ⟨_, rfl, hA⟩

def w_Desk___len__ (C : Addr) : WS :=
    (wRet (wFn gLen (wCons (wFldO C 0 "done") wNil)))
def sp_Desk___len__ : SpO := fun fs ds A _ => ∃ ps dn, fs = fsD ps dn ∧ ds = [] ∧ A (.int dn.length) (fsD ps dn)
theorem pure_Desk___len__ (C : Addr) : PureO C 0 0 sp_Desk___len__ (w_Desk___len__ C) := by
  rintro fs ds A B a dx - ⟨ps, dn, rfl, rfl, hA⟩
  simp only [w_Desk___len__, bl?, g2, gAdd, gDiv, gEq, gGe, gGt, gI, gIn, gInt, gIs, gIsNot, gLe, gLen, gList, gLt, gMM, gMod, gMul, gMulS, gNe, gNotIn, gPow, gSorted, gSub, gIadd, gSum, gTuple, puts, sV, sVs, slotM, wAnd, wApp, wAsg, wAug, wAugI, wB, wC, wCall, wCallR, wChain, wCons, wDraw, wDrop, wEnL, wEnT, wExt, wFn, wFnO, wFor, wGCons, wGNil, wGT, wIL, wIT, wIdx, wIf, wIfS, wIsi, wIx, wLc, wLst, wMNil, wMO, wMV, wMix, wN, wNeg, wNil, wNot, wNotT, wO, wOp, wOr, wOwn, wPar, wR1, wR2, wRaise, wRaiseF, wRet, wSeq, wSet, wSetI, wSkip, wTAnd, wTNot, wTOr, wTru, wTry, wTryF, wTup, wV, wYes, wSplit, wJoin, wRstrip, wFmt, wJNil, wJCons, wJs, gStr, gIntS, wIS, gSignNotIn, wSl, wSlt, wPn, wPs, gMulT, wGL, wTryAs, wXf, wXis, wCat, wCatV, wIxV, wDGet, wDIn, wDInT, wDGet2, wDPut, wDisp1, wOwnD, wMD, wForD, wLcD, wFz, wMv, wMinD, gListD, fzS, wDK, wDT, wFldO, wFldS, wMeth, wProp, wLenO, wCallO, wMake, wNewOb, wNewObL, wMethC, startS, List.length_cons, List.length_nil, List.map_cons, List.map_nil, List.getElem?_cons_zero, List.getElem?_cons_succ, List.set_cons_zero, List.set_cons_succ, List.cons_append, List.nil_append, List.append_nil, List.replicate_succ, List.replicate_zero, Nat.reduceAdd, Nat.reduceSub, ↓reduceIte, Bool.false_eq_true, reduceCtorEq, true_and, and_true, true_or, or_true, false_or, or_false, Bool.not_true, Bool.not_false, Bool.true_and, Bool.false_and, Bool.and_true, decide_eq_true_eq, Bool.not_eq_eq_eq_not, exists_eq_left, exists_eq_left', Option.some.injEq, lk_done, List.length_map]
  exact ⟨_, rfl, hA⟩

def w_Desk_empties (C : Addr) : WS :=
    (wRet (wFn gLen (wCons (wO (wLc (wIT (wIx (wFldO C 0 "past") (wNeg (wC (.int 1))))) (wN 1) (wB (wOp gEq (wV 1) (wC (.int 0)))) (wV 1) [1])) wNil)))
def zeros (h : List Int) : Nat := (h.filter fun x => decide (x = 0)).length
def sp_Desk_empties : SpO := fun fs ds A _ => ∃ ps dn h, fs = fsD ps dn ∧ ds = [] ∧ ps.getLast? = some h ∧ h.length ≤ 6 ∧ A (.int (zeros h)) (fsD ps dn)
theorem pure_Desk_empties (C : Addr) : PureO C 1 0 sp_Desk_empties (w_Desk_empties C) := by
  rintro fs ds A B a dx - ⟨ps, dn, h, rfl, rfl, hl, h6, hA⟩
  simp only [w_Desk_empties, bl?, g2, gAdd, gDiv, gEq, gGe, gGt, gI, gIn, gInt, gIs, gIsNot, gLe, gLen, gList, gLt, gMM, gMod, gMul, gMulS, gNe, gNotIn, gPow, gSorted, gSub, gIadd, gSum, gTuple, puts, sV, sVs, slotM, wAnd, wApp, wAsg, wAug, wAugI, wB, wC, wCall, wCallR, wChain, wCons, wDraw, wDrop, wEnL, wEnT, wExt, wFn, wFnO, wFor, wGCons, wGNil, wGT, wIL, wIT, wIdx, wIf, wIfS, wIsi, wIx, wLc, wLst, wMNil, wMO, wMV, wMix, wN, wNeg, wNil, wNot, wNotT, wO, wOp, wOr, wOwn, wPar, wR1, wR2, wRaise, wRaiseF, wRet, wSeq, wSet, wSetI, wSkip, wTAnd, wTNot, wTOr, wTru, wTry, wTryF, wTup, wV, wYes, wSplit, wJoin, wRstrip, wFmt, wJNil, wJCons, wJs, gStr, gIntS, wIS, gSignNotIn, wSl, wSlt, wPn, wPs, gMulT, wGL, wTryAs, wXf, wXis, wCat, wCatV, wIxV, wDGet, wDIn, wDInT, wDGet2, wDPut, wDisp1, wOwnD, wMD, wForD, wLcD, wFz, wMv, wMinD, gListD, fzS, wDK, wDT, wFldO, wFldS, wMeth, wProp, wLenO, wCallO, wMake, wNewOb, wNewObL, wMethC, startS, List.length_cons, List.length_nil, List.map_cons, List.map_nil, List.getElem?_cons_zero, List.getElem?_cons_succ, List.set_cons_zero, List.set_cons_succ, List.cons_append, List.nil_append, List.append_nil, List.replicate_succ, List.replicate_zero, Nat.reduceAdd, Nat.reduceSub, ↓reduceIte, Bool.false_eq_true, reduceCtorEq, true_and, and_true, true_or, or_true, false_or, or_false, Bool.not_true, Bool.not_false, Bool.true_and, Bool.false_and, Bool.and_true, decide_eq_true_eq, Bool.not_eq_eq_eq_not, exists_eq_left, exists_eq_left', Option.some.injEq, lk_past]
  refine ⟨_, atD_lastH hl, rfl, ?_⟩
  refine lc_ok PyData.int (fun x => decide (x = 0)) PyData.int h [] True (fun x hx Yes No hy hno => ?_) (by simp; omega) trivial fun c' hc' => ?_
  · simp only [bl?, g2, gAdd, gDiv, gEq, gGe, gGt, gI, gIn, gInt, gIs, gIsNot, gLe, gLen, gList, gLt, gMM, gMod, gMul, gMulS, gNe, gNotIn, gPow, gSorted, gSub, gIadd, gSum, gTuple, puts, sV, sVs, slotM, wAnd, wApp, wAsg, wAug, wAugI, wB, wC, wCall, wCallR, wChain, wCons, wDraw, wDrop, wEnL, wEnT, wExt, wFn, wFnO, wFor, wGCons, wGNil, wGT, wIL, wIT, wIdx, wIf, wIfS, wIsi, wIx, wLc, wLst, wMNil, wMO, wMV, wMix, wN, wNeg, wNil, wNot, wNotT, wO, wOp, wOr, wOwn, wPar, wR1, wR2, wRaise, wRaiseF, wRet, wSeq, wSet, wSetI, wSkip, wTAnd, wTNot, wTOr, wTru, wTry, wTryF, wTup, wV, wYes, wSplit, wJoin, wRstrip, wFmt, wJNil, wJCons, wJs, gStr, gIntS, wIS, gSignNotIn, wSl, wSlt, wPn, wPs, gMulT, wGL, wTryAs, wXf, wXis, wCat, wCatV, wIxV, wDGet, wDIn, wDInT, wDGet2, wDPut, wDisp1, wOwnD, wMD, wForD, wLcD, wFz, wMv, wMinD, gListD, fzS, wDK, wDT, wFldO, wFldS, wMeth, wProp, wLenO, wCallO, wMake, wNewOb, wNewObL, wMethC, startS, List.length_cons, List.length_nil, List.map_cons, List.map_nil, List.getElem?_cons_zero, List.getElem?_cons_succ, List.set_cons_zero, List.set_cons_succ, List.cons_append, List.nil_append, List.append_nil, List.replicate_succ, List.replicate_zero, Nat.reduceAdd, Nat.reduceSub, ↓reduceIte, Bool.false_eq_true, reduceCtorEq, true_and, and_true, true_or, or_true, false_or, or_false, Bool.not_true, Bool.not_false, Bool.true_and, Bool.false_and, Bool.and_true, decide_eq_true_eq, Bool.not_eq_eq_eq_not, exists_eq_left, exists_eq_left', Option.some.injEq, wipeS, flat_int, shaped_int, eqv_int]
    by_cases hz : x = 0
    · simp only [hz, if_true]; exact hz ▸ hy (decide_eq_true hz)
    · simp only [hz, if_false]; exact hno (decide_eq_false hz)
  · rw [List.nil_append]
    simp only [bl?, g2, gAdd, gDiv, gEq, gGe, gGt, gI, gIn, gInt, gIs, gIsNot, gLe, gLen, gList, gLt, gMM, gMod, gMul, gMulS, gNe, gNotIn, gPow, gSorted, gSub, gIadd, gSum, gTuple, puts, sV, sVs, slotM, wAnd, wApp, wAsg, wAug, wAugI, wB, wC, wCall, wCallR, wChain, wCons, wDraw, wDrop, wEnL, wEnT, wExt, wFn, wFnO, wFor, wGCons, wGNil, wGT, wIL, wIT, wIdx, wIf, wIfS, wIsi, wIx, wLc, wLst, wMNil, wMO, wMV, wMix, wN, wNeg, wNil, wNot, wNotT, wO, wOp, wOr, wOwn, wPar, wR1, wR2, wRaise, wRaiseF, wRet, wSeq, wSet, wSetI, wSkip, wTAnd, wTNot, wTOr, wTru, wTry, wTryF, wTup, wV, wYes, wSplit, wJoin, wRstrip, wFmt, wJNil, wJCons, wJs, gStr, gIntS, wIS, gSignNotIn, wSl, wSlt, wPn, wPs, gMulT, wGL, wTryAs, wXf, wXis, wCat, wCatV, wIxV, wDGet, wDIn, wDInT, wDGet2, wDPut, wDisp1, wOwnD, wMD, wForD, wLcD, wFz, wMv, wMinD, gListD, fzS, wDK, wDT, wFldO, wFldS, wMeth, wProp, wLenO, wCallO, wMake, wNewOb, wNewObL, wMethC, startS, List.length_cons, List.length_nil, List.map_cons, List.map_nil, List.getElem?_cons_zero, List.getElem?_cons_succ, List.set_cons_zero, List.set_cons_succ, List.cons_append, List.nil_append, List.append_nil, List.replicate_succ, List.replicate_zero, Nat.reduceAdd, Nat.reduceSub, ↓reduceIte, Bool.false_eq_true, reduceCtorEq, true_and, and_true, true_or, or_true, false_or, or_false, Bool.not_true, Bool.not_false, Bool.true_and, Bool.false_and, Bool.and_true, decide_eq_true_eq, Bool.not_eq_eq_eq_not, exists_eq_left, exists_eq_left', Option.some.injEq, List.length_map]
    exact ⟨_, rfl, hA⟩

def w_Desk_undo (C : Addr) : WS :=
    (wSeq (wIfS (wTNot (wTru (wFldO C 0 "done"))) (wRet (wC (.bool false))) wSkip)
    (wSeq (wFldS C 0 "past" (wSlt (wFldO C 0 "past") wPn (wPs (wNeg (wC (.int 1))))))
    (wSeq (wFldS C 0 "done" (wSlt (wFldO C 0 "done") wPn (wPs (wNeg (wC (.int 1))))))
    (wRet (wC (.bool true))))))
def sp_Desk_undo : SpO := fun fs ds A _ => ∃ ps dn, fs = fsD ps dn ∧ ds = [] ∧ A (.bool (!decide (dn = []))) (if dn = [] then fsD ps dn else fsD ps.dropLast dn.dropLast)
theorem cutLast {α : Type} (xs : List α) : cutL xs none (some (-1)) = xs.dropLast := by
  unfold cutL
  have e : HT.sIx xs.length xs.length (some (-1)) = xs.length - 1 := by
    show (if (-1 : Int) < 0 then ((-1 : Int) + (xs.length : Int)).toNat else min (-1 : Int).toNat xs.length) = _
    rw [if_pos (by decide)]
    omega
  rw [HT.sIx_none, e, List.dropLast_eq_take, List.drop_zero, Nat.sub_zero]
theorem cutTake {α : Type} (xs : List α) (k : Nat) : cutL xs none (some (k : Int)) = xs.take k := by
  unfold cutL
  rw [HT.sIx_none, HT.sIx_nat, List.drop_zero, Nat.sub_zero]
  rcases Nat.le_total k xs.length with h | h
  · rw [Nat.min_eq_left h]
  · rw [Nat.min_eq_right h, List.take_length, List.take_of_length_le h]
theorem cutLastM {α : Type} (f : α → PyData) (l : List α) : cutL (l.map f) none (some (-1)) = (l.dropLast).map f := by rw [cutLast, List.map_dropLast]
theorem pure_Desk_undo (C : Addr) : PureO C 0 0 sp_Desk_undo (w_Desk_undo C) := by
  rintro fs ds A B a dx - ⟨ps, dn, rfl, rfl, hA⟩
  have e0 : (dn.map eP).isEmpty = decide (dn = []) := by cases dn <;> rfl
  simp only [w_Desk_undo, bl?, g2, gAdd, gDiv, gEq, gGe, gGt, gI, gIn, gInt, gIs, gIsNot, gLe, gLen, gList, gLt, gMM, gMod, gMul, gMulS, gNe, gNotIn, gPow, gSorted, gSub, gIadd, gSum, gTuple, puts, sV, sVs, slotM, wAnd, wApp, wAsg, wAug, wAugI, wB, wC, wCall, wCallR, wChain, wCons, wDraw, wDrop, wEnL, wEnT, wExt, wFn, wFnO, wFor, wGCons, wGNil, wGT, wIL, wIT, wIdx, wIf, wIfS, wIsi, wIx, wLc, wLst, wMNil, wMO, wMV, wMix, wN, wNeg, wNil, wNot, wNotT, wO, wOp, wOr, wOwn, wPar, wR1, wR2, wRaise, wRaiseF, wRet, wSeq, wSet, wSetI, wSkip, wTAnd, wTNot, wTOr, wTru, wTry, wTryF, wTup, wV, wYes, wSplit, wJoin, wRstrip, wFmt, wJNil, wJCons, wJs, gStr, gIntS, wIS, gSignNotIn, wSl, wSlt, wPn, wPs, gMulT, wGL, wTryAs, wXf, wXis, wCat, wCatV, wIxV, wDGet, wDIn, wDInT, wDGet2, wDPut, wDisp1, wOwnD, wMD, wForD, wLcD, wFz, wMv, wMinD, gListD, fzS, wDK, wDT, wFldO, wFldS, wMeth, wProp, wLenO, wCallO, wMake, wNewOb, wNewObL, wMethC, startS, List.length_cons, List.length_nil, List.map_cons, List.map_nil, List.getElem?_cons_zero, List.getElem?_cons_succ, List.set_cons_zero, List.set_cons_succ, List.cons_append, List.nil_append, List.append_nil, List.replicate_succ, List.replicate_zero, Nat.reduceAdd, Nat.reduceSub, ↓reduceIte, Bool.false_eq_true, reduceCtorEq, true_and, and_true, true_or, or_true, false_or, or_false, Bool.not_true, Bool.not_false, Bool.true_and, Bool.false_and, Bool.and_true, decide_eq_true_eq, Bool.not_eq_eq_eq_not, exists_eq_left, exists_eq_left', Option.some.injEq, lk_done, lk_past, put_past, put_done, len_fsG, cutLastM, e0]
  by_cases hd : dn = []
  · simp [hd] at hA ⊢
    exact hA
  · simp [hd] at hA ⊢
    rw [← List.map_dropLast, ← List.map_dropLast]
    exact hA

def w_Desk_copy (C : Addr) : WS :=
    (wSeq (wNewOb C 1 (wMake sp_Desk___init__ (wCons (wIx (wFldO C 0 "past") (wC (.int 0))) wNil)))
    (wSeq (wFldS C 1 "past" (wFldO C 0 "past"))
    (wSeq (wFldS C 1 "done" (wFldO C 0 "done"))
    wSkip)))
def sp_Desk_copy : Fs → (Fs → Prop) → Prop := fun fs A => ∃ ps dn h0, fs = fsD ps dn ∧ ps.head? = some h0 ∧ OkH h0 ∧ A (fsD ps dn)
theorem pure_Desk_copy (C : Addr) : ∀ fs A a dx, sp_Desk_copy fs A → w_Desk_copy C (.ob a dx C fs :: List.replicate (2 - 1) .un) ⟨fun S => S[0]? = some (.ob a dx C fs) ∧ ∃ p px fs', S[1]? = some (.ob p px C fs') ∧ 1 ≠ 0 ∧ A fs', fun _ _ _ => False, fun _ => False, fun _ => False, fun _ _ => False⟩ := by
  rintro fs A a dx ⟨ps, dn, h0, rfl, hh, o, hA⟩
  simp only [w_Desk_copy, bl?, g2, gAdd, gDiv, gEq, gGe, gGt, gI, gIn, gInt, gIs, gIsNot, gLe, gLen, gList, gLt, gMM, gMod, gMul, gMulS, gNe, gNotIn, gPow, gSorted, gSub, gIadd, gSum, gTuple, puts, sV, sVs, slotM, wAnd, wApp, wAsg, wAug, wAugI, wB, wC, wCall, wCallR, wChain, wCons, wDraw, wDrop, wEnL, wEnT, wExt, wFn, wFnO, wFor, wGCons, wGNil, wGT, wIL, wIT, wIdx, wIf, wIfS, wIsi, wIx, wLc, wLst, wMNil, wMO, wMV, wMix, wN, wNeg, wNil, wNot, wNotT, wO, wOp, wOr, wOwn, wPar, wR1, wR2, wRaise, wRaiseF, wRet, wSeq, wSet, wSetI, wSkip, wTAnd, wTNot, wTOr, wTru, wTry, wTryF, wTup, wV, wYes, wSplit, wJoin, wRstrip, wFmt, wJNil, wJCons, wJs, gStr, gIntS, wIS, gSignNotIn, wSl, wSlt, wPn, wPs, gMulT, wGL, wTryAs, wXf, wXis, wCat, wCatV, wIxV, wDGet, wDIn, wDInT, wDGet2, wDPut, wDisp1, wOwnD, wMD, wForD, wLcD, wFz, wMv, wMinD, gListD, fzS, wDK, wDT, wFldO, wFldS, wMeth, wProp, wLenO, wCallO, wMake, wNewOb, wNewObL, wMethC, startS, List.length_cons, List.length_nil, List.map_cons, List.map_nil, List.getElem?_cons_zero, List.getElem?_cons_succ, List.set_cons_zero, List.set_cons_succ, List.cons_append, List.nil_append, List.append_nil, List.replicate_succ, List.replicate_zero, Nat.reduceAdd, Nat.reduceSub, ↓reduceIte, Bool.false_eq_true, reduceCtorEq, true_and, and_true, true_or, or_true, false_or, or_false, Bool.not_true, Bool.not_false, Bool.true_and, Bool.false_and, Bool.and_true, decide_eq_true_eq, Bool.not_eq_eq_eq_not, exists_eq_left, exists_eq_left', Option.some.injEq, lk_past, lk_done, put_past, put_done, len_fsG]
  have h1 : atD (ps.map eH) 0 = some (eH h0) := by
    cases ps with
    | nil => cases hh
    | cons x r => cases hh; exact atD_map (l := h0 :: r) (i := 0) rfl
  refine ⟨_, h1, h0, rfl, rfl, o, rfl, fun p px => ?_⟩
  simp only [put_past, put_done, len_fsG, startS, List.length_cons, List.length_nil, List.map_cons, List.map_nil, List.getElem?_cons_zero, List.getElem?_cons_succ, List.set_cons_zero, List.set_cons_succ, List.cons_append, List.nil_append, List.append_nil, List.replicate_succ, List.replicate_zero, Nat.reduceAdd, Nat.reduceSub, ↓reduceIte, Bool.false_eq_true, reduceCtorEq, true_and, and_true, true_or, or_true, false_or, or_false, Bool.not_true, Bool.not_false, Bool.true_and, Bool.false_and, Bool.and_true, decide_eq_true_eq, Bool.not_eq_eq_eq_not, exists_eq_left, exists_eq_left', Option.some.injEq]
  exact ⟨p, px, _, rfl, by decide, hA⟩

/-! ### a step is made, or it cannot be made -/
/-- the step that d1 and d2 say, if it can be made -/
def goodS (h : List Int) (d1 d2 : PyData) : Option (Nat × Nat) := match d1, d2 with
  | .int i, .int j => if 0 ≤ i ∧ 0 ≤ j ∧ i < (h.length : Int) ∧ j < (h.length : Int) ∧ i ≠ j ∧ can h (i.toNat, j.toNat) = true then some (i.toNat, j.toNat) else none
  | _, _ => none
theorem stepD_of {d1 d2 : PyData} {n : Nat} (h : isStepD (.tuple [d1, d2]) (n : Int) = true) : ∃ s : Nat × Nat, d1 = .int (s.1 : Int) ∧ d2 = .int (s.2 : Int) ∧ okS n s := by
  unfold isStepD at h
  simp only [Bool.and_eq_true] at h
  obtain ⟨⟨h1, h2⟩, h3⟩ := h
  cases d1 <;> simp [inR] at h1 h3
  rename_i i
  cases d2 <;> simp [inR] at h2 h3
  rename_i j
  obtain ⟨a, rfl⟩ := Int.eq_ofNat_of_zero_le h1.1
  obtain ⟨b, rfl⟩ := Int.eq_ofNat_of_zero_le h2.1
  exact ⟨(a, b), rfl, rfl, by show a < n; omega, by show b < n; omega, by show a ≠ b; omega⟩
theorem goodS_some {h : List Int} {s : Nat × Nat} (o : okS h.length s) (c : can h s = true) : goodS h (.int (s.1 : Int)) (.int (s.2 : Int)) = some s := by
  unfold goodS
  obtain ⟨o1, o2, o3⟩ := o
  show (if _ then _ else _) = _
  rw [if_pos ⟨by omega, by omega, by omega, by omega, by omega, by simpa using c⟩]
  simp
theorem goodS_none1 {h : List Int} {d1 d2 : PyData} (hf : isStepD (.tuple [d1, d2]) (h.length : Int) = false) : goodS h d1 d2 = none := by
  cases hg : goodS h d1 d2 with
  | none => rfl
  | some s =>
    exfalso
    unfold goodS at hg
    split at hg
    · split at hg
      · rename_i i j hc
        obtain ⟨c1, c2, c3, c4, c5, c6⟩ := hc
        have : isStepD (.tuple [.int i, .int j]) (h.length : Int) = true := by
          unfold isStepD
          simp [inR]
          omega
        rw [this] at hf
        cases hf
      · cases hg
    · cases hg
theorem goodS_none2 {h : List Int} {s : Nat × Nat} (c : can h s = false) : goodS h (.int (s.1 : Int)) (.int (s.2 : Int)) = none := by
  unfold goodS
  show (if _ then _ else _) = _
  rw [if_neg]
  rintro ⟨_, _, _, _, _, q⟩
  simp at q
  rw [q] at c
  cases c

def w_Desk_move (C : Addr) : WS :=
    (wSeq (wSet 3 (wIx (wFldO C 0 "past") (wNeg (wC (.int 1)))))
    (wSeq (wSet 4 (wTup (wCons (wV 1) (wCons (wV 2) wNil))))
    (wSeq (wIfS (wTOr (wTNot (wB (wCall sp_is_step (wCons (wV 4) (wCons (wFn gLen (wCons (wV 3) wNil)) wNil))))) (wTNot (wB (wCall sp_can_be_made (wCons (wV 3) (wCons (wV 4) wNil)))))) (wRaise "BadStep") wSkip)
    (wSeq (wIfS (wB (wOp gEq (wFn gLen (wCons (wFldO C 0 "done") wNil)) (wC (.int 100)))) (wRaise "Full") wSkip)
    (wSeq (wFldS C 0 "past" (wOp gAdd (wFldO C 0 "past") (wTup (wCons (wCall sp_behind (wCons (wV 3) (wCons (wV 4) wNil))) wNil))))
    (wSeq (wFldS C 0 "done" (wOp gAdd (wFldO C 0 "done") (wTup (wCons (wV 4) wNil))))
    (wRet (wIx (wV 3) (wV 2)))))))))
def sp_Desk_move : SpO := fun fs ds A B => ∃ ps dn h d1 d2, fs = fsD ps dn ∧ ds = [d1, d2] ∧ ps.getLast? = some h ∧ h.length ≤ 6 ∧ dn.length < 100 ∧ ps.length ≤ 1000 ∧ typD d1 ≠ "dict" ∧ typD d2 ≠ "dict" ∧ flat d1 = true ∧ flat d2 = true ∧
  match goodS h d1 d2 with
  | some s => A (.int (gt h s.2)) (fsD (ps ++ [beh h s]) (dn ++ [s]))
  | none => B ("BadStep", []) (fsD ps dn)
theorem pure_Desk_move (C : Addr) : PureO C 4 2 sp_Desk_move (w_Desk_move C) := by
  rintro fs ds A B a dx - ⟨ps, dn, h, d1, d2, rfl, rfl, hl, h6, h100, hps, t1, t2, f1, f2, hA⟩
  show w_Desk_move C [.ob a dx C (fsD ps dn), .im d1, .im d2, .un, .un] _
  unfold w_Desk_move
  refine seq_cut (fun S => S = [.ob a dx C (fsD ps dn), .im d1, .im d2, .im (eH h), .un]) (fun Nx hN => ?_) ?_
  · simp only [bl?, g2, gAdd, gDiv, gEq, gGe, gGt, gI, gIn, gInt, gIs, gIsNot, gLe, gLen, gList, gLt, gMM, gMod, gMul, gMulS, gNe, gNotIn, gPow, gSorted, gSub, gIadd, gSum, gTuple, puts, sV, sVs, slotM, wAnd, wApp, wAsg, wAug, wAugI, wB, wC, wCall, wCallR, wChain, wCons, wDraw, wDrop, wEnL, wEnT, wExt, wFn, wFnO, wFor, wGCons, wGNil, wGT, wIL, wIT, wIdx, wIf, wIfS, wIsi, wIx, wLc, wLst, wMNil, wMO, wMV, wMix, wN, wNeg, wNil, wNot, wNotT, wO, wOp, wOr, wOwn, wPar, wR1, wR2, wRaise, wRaiseF, wRet, wSeq, wSet, wSetI, wSkip, wTAnd, wTNot, wTOr, wTru, wTry, wTryF, wTup, wV, wYes, wSplit, wJoin, wRstrip, wFmt, wJNil, wJCons, wJs, gStr, gIntS, wIS, gSignNotIn, wSl, wSlt, wPn, wPs, gMulT, wGL, wTryAs, wXf, wXis, wCat, wCatV, wIxV, wDGet, wDIn, wDInT, wDGet2, wDPut, wDisp1, wOwnD, wMD, wForD, wLcD, wFz, wMv, wMinD, gListD, fzS, wDK, wDT, wFldO, wFldS, wMeth, wProp, wLenO, wCallO, wMake, wNewOb, wNewObL, wMethC, startS, List.length_cons, List.length_nil, List.map_cons, List.map_nil, List.getElem?_cons_zero, List.getElem?_cons_succ, List.set_cons_zero, List.set_cons_succ, List.cons_append, List.nil_append, List.append_nil, List.replicate_succ, List.replicate_zero, Nat.reduceAdd, Nat.reduceSub, ↓reduceIte, Bool.false_eq_true, reduceCtorEq, true_and, and_true, true_or, or_true, false_or, or_false, Bool.not_true, Bool.not_false, Bool.true_and, Bool.false_and, Bool.and_true, decide_eq_true_eq, Bool.not_eq_eq_eq_not, exists_eq_left, exists_eq_left', Option.some.injEq, lk_past]
    exact ⟨_, atD_lastH hl, hN _ rfl⟩
  rintro S rfl
  refine seq_cut (fun S => S = [.ob a dx C (fsD ps dn), .im d1, .im d2, .im (eH h), .im (.tuple [d1, d2])]) (fun Nx hN => ?_) ?_
  · simp only [bl?, g2, gAdd, gDiv, gEq, gGe, gGt, gI, gIn, gInt, gIs, gIsNot, gLe, gLen, gList, gLt, gMM, gMod, gMul, gMulS, gNe, gNotIn, gPow, gSorted, gSub, gIadd, gSum, gTuple, puts, sV, sVs, slotM, wAnd, wApp, wAsg, wAug, wAugI, wB, wC, wCall, wCallR, wChain, wCons, wDraw, wDrop, wEnL, wEnT, wExt, wFn, wFnO, wFor, wGCons, wGNil, wGT, wIL, wIT, wIdx, wIf, wIfS, wIsi, wIx, wLc, wLst, wMNil, wMO, wMV, wMix, wN, wNeg, wNil, wNot, wNotT, wO, wOp, wOr, wOwn, wPar, wR1, wR2, wRaise, wRaiseF, wRet, wSeq, wSet, wSetI, wSkip, wTAnd, wTNot, wTOr, wTru, wTry, wTryF, wTup, wV, wYes, wSplit, wJoin, wRstrip, wFmt, wJNil, wJCons, wJs, gStr, gIntS, wIS, gSignNotIn, wSl, wSlt, wPn, wPs, gMulT, wGL, wTryAs, wXf, wXis, wCat, wCatV, wIxV, wDGet, wDIn, wDInT, wDGet2, wDPut, wDisp1, wOwnD, wMD, wForD, wLcD, wFz, wMv, wMinD, gListD, fzS, wDK, wDT, wFldO, wFldS, wMeth, wProp, wLenO, wCallO, wMake, wNewOb, wNewObL, wMethC, startS, List.length_cons, List.length_nil, List.map_cons, List.map_nil, List.getElem?_cons_zero, List.getElem?_cons_succ, List.set_cons_zero, List.set_cons_succ, List.cons_append, List.nil_append, List.append_nil, List.replicate_succ, List.replicate_zero, Nat.reduceAdd, Nat.reduceSub, ↓reduceIte, Bool.false_eq_true, reduceCtorEq, true_and, and_true, true_or, or_true, false_or, or_false, Bool.not_true, Bool.not_false, Bool.true_and, Bool.false_and, Bool.and_true, decide_eq_true_eq, Bool.not_eq_eq_eq_not, exists_eq_left, exists_eq_left', Option.some.injEq]
    exact ⟨by decide, hN _ rfl⟩
  rintro S rfl
  have pl : plainD (.tuple [d1, d2]) := ⟨by simp [typD], fun xs e x hx => by
    cases e
    simp at hx
    rcases hx with rfl | rfl
    · exact t1
    · exact t2⟩
  refine seq_cut (fun S => ∃ s : Nat × Nat, d1 = .int (s.1 : Int) ∧ d2 = .int (s.2 : Int) ∧ okS h.length s ∧ can h s = true ∧ S = [.ob a dx C (fsD ps dn), .im d1, .im d2, .im (eH h), .im (eP s)]) (fun Nx hN => ?_) ?_
  · simp only [bl?, g2, gAdd, gDiv, gEq, gGe, gGt, gI, gIn, gInt, gIs, gIsNot, gLe, gLen, gList, gLt, gMM, gMod, gMul, gMulS, gNe, gNotIn, gPow, gSorted, gSub, gIadd, gSum, gTuple, puts, sV, sVs, slotM, wAnd, wApp, wAsg, wAug, wAugI, wB, wC, wCall, wCallR, wChain, wCons, wDraw, wDrop, wEnL, wEnT, wExt, wFn, wFnO, wFor, wGCons, wGNil, wGT, wIL, wIT, wIdx, wIf, wIfS, wIsi, wIx, wLc, wLst, wMNil, wMO, wMV, wMix, wN, wNeg, wNil, wNot, wNotT, wO, wOp, wOr, wOwn, wPar, wR1, wR2, wRaise, wRaiseF, wRet, wSeq, wSet, wSetI, wSkip, wTAnd, wTNot, wTOr, wTru, wTry, wTryF, wTup, wV, wYes, wSplit, wJoin, wRstrip, wFmt, wJNil, wJCons, wJs, gStr, gIntS, wIS, gSignNotIn, wSl, wSlt, wPn, wPs, gMulT, wGL, wTryAs, wXf, wXis, wCat, wCatV, wIxV, wDGet, wDIn, wDInT, wDGet2, wDPut, wDisp1, wOwnD, wMD, wForD, wLcD, wFz, wMv, wMinD, gListD, fzS, wDK, wDT, wFldO, wFldS, wMeth, wProp, wLenO, wCallO, wMake, wNewOb, wNewObL, wMethC, startS, List.length_cons, List.length_nil, List.map_cons, List.map_nil, List.getElem?_cons_zero, List.getElem?_cons_succ, List.set_cons_zero, List.set_cons_succ, List.cons_append, List.nil_append, List.append_nil, List.replicate_succ, List.replicate_zero, Nat.reduceAdd, Nat.reduceSub, ↓reduceIte, Bool.false_eq_true, reduceCtorEq, true_and, and_true, true_or, or_true, false_or, or_false, Bool.not_true, Bool.not_false, Bool.true_and, Bool.false_and, Bool.and_true, decide_eq_true_eq, Bool.not_eq_eq_eq_not, exists_eq_left, exists_eq_left', Option.some.injEq, eH, List.length_map]
    refine sp_is_step_eq.mpr ⟨pl, ?_⟩
    cases hs : isStepD (.tuple [d1, d2]) (h.length : Int) with
    | false =>
      rw [goodS_none1 hs] at hA
      simp only [bl?, g2, gAdd, gDiv, gEq, gGe, gGt, gI, gIn, gInt, gIs, gIsNot, gLe, gLen, gList, gLt, gMM, gMod, gMul, gMulS, gNe, gNotIn, gPow, gSorted, gSub, gIadd, gSum, gTuple, puts, sV, sVs, slotM, wAnd, wApp, wAsg, wAug, wAugI, wB, wC, wCall, wCallR, wChain, wCons, wDraw, wDrop, wEnL, wEnT, wExt, wFn, wFnO, wFor, wGCons, wGNil, wGT, wIL, wIT, wIdx, wIf, wIfS, wIsi, wIx, wLc, wLst, wMNil, wMO, wMV, wMix, wN, wNeg, wNil, wNot, wNotT, wO, wOp, wOr, wOwn, wPar, wR1, wR2, wRaise, wRaiseF, wRet, wSeq, wSet, wSetI, wSkip, wTAnd, wTNot, wTOr, wTru, wTry, wTryF, wTup, wV, wYes, wSplit, wJoin, wRstrip, wFmt, wJNil, wJCons, wJs, gStr, gIntS, wIS, gSignNotIn, wSl, wSlt, wPn, wPs, gMulT, wGL, wTryAs, wXf, wXis, wCat, wCatV, wIxV, wDGet, wDIn, wDInT, wDGet2, wDPut, wDisp1, wOwnD, wMD, wForD, wLcD, wFz, wMv, wMinD, gListD, fzS, wDK, wDT, wFldO, wFldS, wMeth, wProp, wLenO, wCallO, wMake, wNewOb, wNewObL, wMethC, startS, List.length_cons, List.length_nil, List.map_cons, List.map_nil, List.getElem?_cons_zero, List.getElem?_cons_succ, List.set_cons_zero, List.set_cons_succ, List.cons_append, List.nil_append, List.append_nil, List.replicate_succ, List.replicate_zero, Nat.reduceAdd, Nat.reduceSub, ↓reduceIte, Bool.false_eq_true, reduceCtorEq, true_and, and_true, true_or, or_true, false_or, or_false, Bool.not_true, Bool.not_false, Bool.true_and, Bool.false_and, Bool.and_true, decide_eq_true_eq, Bool.not_eq_eq_eq_not, exists_eq_left, exists_eq_left', Option.some.injEq]
      exact ⟨_, rfl, hA⟩
    | true =>
      obtain ⟨s, rfl, rfl, os⟩ := stepD_of hs
      simp only [bl?, g2, gAdd, gDiv, gEq, gGe, gGt, gI, gIn, gInt, gIs, gIsNot, gLe, gLen, gList, gLt, gMM, gMod, gMul, gMulS, gNe, gNotIn, gPow, gSorted, gSub, gIadd, gSum, gTuple, puts, sV, sVs, slotM, wAnd, wApp, wAsg, wAug, wAugI, wB, wC, wCall, wCallR, wChain, wCons, wDraw, wDrop, wEnL, wEnT, wExt, wFn, wFnO, wFor, wGCons, wGNil, wGT, wIL, wIT, wIdx, wIf, wIfS, wIsi, wIx, wLc, wLst, wMNil, wMO, wMV, wMix, wN, wNeg, wNil, wNot, wNotT, wO, wOp, wOr, wOwn, wPar, wR1, wR2, wRaise, wRaiseF, wRet, wSeq, wSet, wSetI, wSkip, wTAnd, wTNot, wTOr, wTru, wTry, wTryF, wTup, wV, wYes, wSplit, wJoin, wRstrip, wFmt, wJNil, wJCons, wJs, gStr, gIntS, wIS, gSignNotIn, wSl, wSlt, wPn, wPs, gMulT, wGL, wTryAs, wXf, wXis, wCat, wCatV, wIxV, wDGet, wDIn, wDInT, wDGet2, wDPut, wDisp1, wOwnD, wMD, wForD, wLcD, wFz, wMv, wMinD, gListD, fzS, wDK, wDT, wFldO, wFldS, wMeth, wProp, wLenO, wCallO, wMake, wNewOb, wNewObL, wMethC, startS, List.length_cons, List.length_nil, List.map_cons, List.map_nil, List.getElem?_cons_zero, List.getElem?_cons_succ, List.set_cons_zero, List.set_cons_succ, List.cons_append, List.nil_append, List.append_nil, List.replicate_succ, List.replicate_zero, Nat.reduceAdd, Nat.reduceSub, ↓reduceIte, Bool.false_eq_true, reduceCtorEq, true_and, and_true, true_or, or_true, false_or, or_false, Bool.not_true, Bool.not_false, Bool.true_and, Bool.false_and, Bool.and_true, decide_eq_true_eq, Bool.not_eq_eq_eq_not, exists_eq_left, exists_eq_left', Option.some.injEq]
      refine can_use (h := h) (s := s) os.1 os.2.1 ?_
      cases cg : can h s with
      | false =>
        rw [goodS_none2 cg] at hA
        simp only [bl?, g2, gAdd, gDiv, gEq, gGe, gGt, gI, gIn, gInt, gIs, gIsNot, gLe, gLen, gList, gLt, gMM, gMod, gMul, gMulS, gNe, gNotIn, gPow, gSorted, gSub, gIadd, gSum, gTuple, puts, sV, sVs, slotM, wAnd, wApp, wAsg, wAug, wAugI, wB, wC, wCall, wCallR, wChain, wCons, wDraw, wDrop, wEnL, wEnT, wExt, wFn, wFnO, wFor, wGCons, wGNil, wGT, wIL, wIT, wIdx, wIf, wIfS, wIsi, wIx, wLc, wLst, wMNil, wMO, wMV, wMix, wN, wNeg, wNil, wNot, wNotT, wO, wOp, wOr, wOwn, wPar, wR1, wR2, wRaise, wRaiseF, wRet, wSeq, wSet, wSetI, wSkip, wTAnd, wTNot, wTOr, wTru, wTry, wTryF, wTup, wV, wYes, wSplit, wJoin, wRstrip, wFmt, wJNil, wJCons, wJs, gStr, gIntS, wIS, gSignNotIn, wSl, wSlt, wPn, wPs, gMulT, wGL, wTryAs, wXf, wXis, wCat, wCatV, wIxV, wDGet, wDIn, wDInT, wDGet2, wDPut, wDisp1, wOwnD, wMD, wForD, wLcD, wFz, wMv, wMinD, gListD, fzS, wDK, wDT, wFldO, wFldS, wMeth, wProp, wLenO, wCallO, wMake, wNewOb, wNewObL, wMethC, startS, List.length_cons, List.length_nil, List.map_cons, List.map_nil, List.getElem?_cons_zero, List.getElem?_cons_succ, List.set_cons_zero, List.set_cons_succ, List.cons_append, List.nil_append, List.append_nil, List.replicate_succ, List.replicate_zero, Nat.reduceAdd, Nat.reduceSub, ↓reduceIte, Bool.false_eq_true, reduceCtorEq, true_and, and_true, true_or, or_true, false_or, or_false, Bool.not_true, Bool.not_false, Bool.true_and, Bool.false_and, Bool.and_true, decide_eq_true_eq, Bool.not_eq_eq_eq_not, exists_eq_left, exists_eq_left', Option.some.injEq]
        exact ⟨_, rfl, hA⟩
      | true =>
        simp only [bl?, g2, gAdd, gDiv, gEq, gGe, gGt, gI, gIn, gInt, gIs, gIsNot, gLe, gLen, gList, gLt, gMM, gMod, gMul, gMulS, gNe, gNotIn, gPow, gSorted, gSub, gIadd, gSum, gTuple, puts, sV, sVs, slotM, wAnd, wApp, wAsg, wAug, wAugI, wB, wC, wCall, wCallR, wChain, wCons, wDraw, wDrop, wEnL, wEnT, wExt, wFn, wFnO, wFor, wGCons, wGNil, wGT, wIL, wIT, wIdx, wIf, wIfS, wIsi, wIx, wLc, wLst, wMNil, wMO, wMV, wMix, wN, wNeg, wNil, wNot, wNotT, wO, wOp, wOr, wOwn, wPar, wR1, wR2, wRaise, wRaiseF, wRet, wSeq, wSet, wSetI, wSkip, wTAnd, wTNot, wTOr, wTru, wTry, wTryF, wTup, wV, wYes, wSplit, wJoin, wRstrip, wFmt, wJNil, wJCons, wJs, gStr, gIntS, wIS, gSignNotIn, wSl, wSlt, wPn, wPs, gMulT, wGL, wTryAs, wXf, wXis, wCat, wCatV, wIxV, wDGet, wDIn, wDInT, wDGet2, wDPut, wDisp1, wOwnD, wMD, wForD, wLcD, wFz, wMv, wMinD, gListD, fzS, wDK, wDT, wFldO, wFldS, wMeth, wProp, wLenO, wCallO, wMake, wNewOb, wNewObL, wMethC, startS, List.length_cons, List.length_nil, List.map_cons, List.map_nil, List.getElem?_cons_zero, List.getElem?_cons_succ, List.set_cons_zero, List.set_cons_succ, List.cons_append, List.nil_append, List.append_nil, List.replicate_succ, List.replicate_zero, Nat.reduceAdd, Nat.reduceSub, ↓reduceIte, Bool.false_eq_true, reduceCtorEq, true_and, and_true, true_or, or_true, false_or, or_false, Bool.not_true, Bool.not_false, Bool.true_and, Bool.false_and, Bool.and_true, decide_eq_true_eq, Bool.not_eq_eq_eq_not, exists_eq_left, exists_eq_left', Option.some.injEq]
        exact hN _ ⟨s, rfl, rfl, os, cg, rfl⟩
  rintro S ⟨s, rfl, rfl, os, cg, rfl⟩
  rw [goodS_some os cg] at hA
  refine seq_cut (fun S => S = [.ob a dx C (fsD ps dn), .im (.int s.1), .im (.int s.2), .im (eH h), .im (eP s)]) (fun Nx hN => ?_) ?_
  · have e1 : ¬ ((dn.length : Int) = 100) := by omega
    simp only [bl?, g2, gAdd, gDiv, gEq, gGe, gGt, gI, gIn, gInt, gIs, gIsNot, gLe, gLen, gList, gLt, gMM, gMod, gMul, gMulS, gNe, gNotIn, gPow, gSorted, gSub, gIadd, gSum, gTuple, puts, sV, sVs, slotM, wAnd, wApp, wAsg, wAug, wAugI, wB, wC, wCall, wCallR, wChain, wCons, wDraw, wDrop, wEnL, wEnT, wExt, wFn, wFnO, wFor, wGCons, wGNil, wGT, wIL, wIT, wIdx, wIf, wIfS, wIsi, wIx, wLc, wLst, wMNil, wMO, wMV, wMix, wN, wNeg, wNil, wNot, wNotT, wO, wOp, wOr, wOwn, wPar, wR1, wR2, wRaise, wRaiseF, wRet, wSeq, wSet, wSetI, wSkip, wTAnd, wTNot, wTOr, wTru, wTry, wTryF, wTup, wV, wYes, wSplit, wJoin, wRstrip, wFmt, wJNil, wJCons, wJs, gStr, gIntS, wIS, gSignNotIn, wSl, wSlt, wPn, wPs, gMulT, wGL, wTryAs, wXf, wXis, wCat, wCatV, wIxV, wDGet, wDIn, wDInT, wDGet2, wDPut, wDisp1, wOwnD, wMD, wForD, wLcD, wFz, wMv, wMinD, gListD, fzS, wDK, wDT, wFldO, wFldS, wMeth, wProp, wLenO, wCallO, wMake, wNewOb, wNewObL, wMethC, startS, List.length_cons, List.length_nil, List.map_cons, List.map_nil, List.getElem?_cons_zero, List.getElem?_cons_succ, List.set_cons_zero, List.set_cons_succ, List.cons_append, List.nil_append, List.append_nil, List.replicate_succ, List.replicate_zero, Nat.reduceAdd, Nat.reduceSub, ↓reduceIte, Bool.false_eq_true, reduceCtorEq, true_and, and_true, true_or, or_true, false_or, or_false, Bool.not_true, Bool.not_false, Bool.true_and, Bool.false_and, Bool.and_true, decide_eq_true_eq, Bool.not_eq_eq_eq_not, exists_eq_left, exists_eq_left', Option.some.injEq, lk_done, List.length_map, shaped_int, eqv_int, e1, decide_false]
    exact hN _ rfl
  rintro S rfl
  refine seq_cut (fun S => S = [.ob a dx C (fsD (ps ++ [beh h s]) dn), .im (.int s.1), .im (.int s.2), .im (eH h), .im (eP s)]) (fun Nx hN => ?_) ?_
  · simp only [bl?, g2, gAdd, gDiv, gEq, gGe, gGt, gI, gIn, gInt, gIs, gIsNot, gLe, gLen, gList, gLt, gMM, gMod, gMul, gMulS, gNe, gNotIn, gPow, gSorted, gSub, gIadd, gSum, gTuple, puts, sV, sVs, slotM, wAnd, wApp, wAsg, wAug, wAugI, wB, wC, wCall, wCallR, wChain, wCons, wDraw, wDrop, wEnL, wEnT, wExt, wFn, wFnO, wFor, wGCons, wGNil, wGT, wIL, wIT, wIdx, wIf, wIfS, wIsi, wIx, wLc, wLst, wMNil, wMO, wMV, wMix, wN, wNeg, wNil, wNot, wNotT, wO, wOp, wOr, wOwn, wPar, wR1, wR2, wRaise, wRaiseF, wRet, wSeq, wSet, wSetI, wSkip, wTAnd, wTNot, wTOr, wTru, wTry, wTryF, wTup, wV, wYes, wSplit, wJoin, wRstrip, wFmt, wJNil, wJCons, wJs, gStr, gIntS, wIS, gSignNotIn, wSl, wSlt, wPn, wPs, gMulT, wGL, wTryAs, wXf, wXis, wCat, wCatV, wIxV, wDGet, wDIn, wDInT, wDGet2, wDPut, wDisp1, wOwnD, wMD, wForD, wLcD, wFz, wMv, wMinD, gListD, fzS, wDK, wDT, wFldO, wFldS, wMeth, wProp, wLenO, wCallO, wMake, wNewOb, wNewObL, wMethC, startS, List.length_cons, List.length_nil, List.map_cons, List.map_nil, List.getElem?_cons_zero, List.getElem?_cons_succ, List.set_cons_zero, List.set_cons_succ, List.cons_append, List.nil_append, List.append_nil, List.replicate_succ, List.replicate_zero, Nat.reduceAdd, Nat.reduceSub, ↓reduceIte, Bool.false_eq_true, reduceCtorEq, true_and, and_true, true_or, or_true, false_or, or_false, Bool.not_true, Bool.not_false, Bool.true_and, Bool.false_and, Bool.and_true, decide_eq_true_eq, Bool.not_eq_eq_eq_not, exists_eq_left, exists_eq_left', Option.some.injEq, lk_past]
    refine beh_use os.1 os.2.1 ?_
    simp only [startS, List.length_cons, List.length_nil, List.map_cons, List.map_nil, List.getElem?_cons_zero, List.getElem?_cons_succ, List.set_cons_zero, List.set_cons_succ, List.cons_append, List.nil_append, List.append_nil, List.replicate_succ, List.replicate_zero, Nat.reduceAdd, Nat.reduceSub, ↓reduceIte, Bool.false_eq_true, reduceCtorEq, true_and, and_true, true_or, or_true, false_or, or_false, Bool.not_true, Bool.not_false, Bool.true_and, Bool.false_and, Bool.and_true, decide_eq_true_eq, Bool.not_eq_eq_eq_not, exists_eq_left, exists_eq_left', Option.some.injEq, put_past, len_fsG, List.length_map]
    have e2 : ps.map eH ++ [eH (beh h s)] = (ps ++ [beh h s]).map eH := by rw [List.map_append]; rfl
    rw [e2]
    exact ⟨by decide, by rw [sizeLine_eq]; omega, hN _ rfl⟩
  rintro S rfl
  refine seq_cut (fun S => S = [.ob a dx C (fsD (ps ++ [beh h s]) (dn ++ [s])), .im (.int s.1), .im (.int s.2), .im (eH h), .im (eP s)]) (fun Nx hN => ?_) ?_
  · simp only [bl?, g2, gAdd, gDiv, gEq, gGe, gGt, gI, gIn, gInt, gIs, gIsNot, gLe, gLen, gList, gLt, gMM, gMod, gMul, gMulS, gNe, gNotIn, gPow, gSorted, gSub, gIadd, gSum, gTuple, puts, sV, sVs, slotM, wAnd, wApp, wAsg, wAug, wAugI, wB, wC, wCall, wCallR, wChain, wCons, wDraw, wDrop, wEnL, wEnT, wExt, wFn, wFnO, wFor, wGCons, wGNil, wGT, wIL, wIT, wIdx, wIf, wIfS, wIsi, wIx, wLc, wLst, wMNil, wMO, wMV, wMix, wN, wNeg, wNil, wNot, wNotT, wO, wOp, wOr, wOwn, wPar, wR1, wR2, wRaise, wRaiseF, wRet, wSeq, wSet, wSetI, wSkip, wTAnd, wTNot, wTOr, wTru, wTry, wTryF, wTup, wV, wYes, wSplit, wJoin, wRstrip, wFmt, wJNil, wJCons, wJs, gStr, gIntS, wIS, gSignNotIn, wSl, wSlt, wPn, wPs, gMulT, wGL, wTryAs, wXf, wXis, wCat, wCatV, wIxV, wDGet, wDIn, wDInT, wDGet2, wDPut, wDisp1, wOwnD, wMD, wForD, wLcD, wFz, wMv, wMinD, gListD, fzS, wDK, wDT, wFldO, wFldS, wMeth, wProp, wLenO, wCallO, wMake, wNewOb, wNewObL, wMethC, startS, List.length_cons, List.length_nil, List.map_cons, List.map_nil, List.getElem?_cons_zero, List.getElem?_cons_succ, List.set_cons_zero, List.set_cons_succ, List.cons_append, List.nil_append, List.append_nil, List.replicate_succ, List.replicate_zero, Nat.reduceAdd, Nat.reduceSub, ↓reduceIte, Bool.false_eq_true, reduceCtorEq, true_and, and_true, true_or, or_true, false_or, or_false, Bool.not_true, Bool.not_false, Bool.true_and, Bool.false_and, Bool.and_true, decide_eq_true_eq, Bool.not_eq_eq_eq_not, exists_eq_left, exists_eq_left', Option.some.injEq, lk_done, put_done, len_fsG, List.length_map]
    have e2 : dn.map eP ++ [eP s] = (dn ++ [s]).map eP := by rw [List.map_append]; rfl
    rw [e2]
    exact ⟨by decide, by rw [sizeLine_eq]; omega, hN _ rfl⟩
  rintro S rfl
  simp only [bl?, g2, gAdd, gDiv, gEq, gGe, gGt, gI, gIn, gInt, gIs, gIsNot, gLe, gLen, gList, gLt, gMM, gMod, gMul, gMulS, gNe, gNotIn, gPow, gSorted, gSub, gIadd, gSum, gTuple, puts, sV, sVs, slotM, wAnd, wApp, wAsg, wAug, wAugI, wB, wC, wCall, wCallR, wChain, wCons, wDraw, wDrop, wEnL, wEnT, wExt, wFn, wFnO, wFor, wGCons, wGNil, wGT, wIL, wIT, wIdx, wIf, wIfS, wIsi, wIx, wLc, wLst, wMNil, wMO, wMV, wMix, wN, wNeg, wNil, wNot, wNotT, wO, wOp, wOr, wOwn, wPar, wR1, wR2, wRaise, wRaiseF, wRet, wSeq, wSet, wSetI, wSkip, wTAnd, wTNot, wTOr, wTru, wTry, wTryF, wTup, wV, wYes, wSplit, wJoin, wRstrip, wFmt, wJNil, wJCons, wJs, gStr, gIntS, wIS, gSignNotIn, wSl, wSlt, wPn, wPs, gMulT, wGL, wTryAs, wXf, wXis, wCat, wCatV, wIxV, wDGet, wDIn, wDInT, wDGet2, wDPut, wDisp1, wOwnD, wMD, wForD, wLcD, wFz, wMv, wMinD, gListD, fzS, wDK, wDT, wFldO, wFldS, wMeth, wProp, wLenO, wCallO, wMake, wNewOb, wNewObL, wMethC, startS, List.length_cons, List.length_nil, List.map_cons, List.map_nil, List.getElem?_cons_zero, List.getElem?_cons_succ, List.set_cons_zero, List.set_cons_succ, List.cons_append, List.nil_append, List.append_nil, List.replicate_succ, List.replicate_zero, Nat.reduceAdd, Nat.reduceSub, ↓reduceIte, Bool.false_eq_true, reduceCtorEq, true_and, and_true, true_or, or_true, false_or, or_false, Bool.not_true, Bool.not_false, Bool.true_and, Bool.false_and, Bool.and_true, decide_eq_true_eq, Bool.not_eq_eq_eq_not, exists_eq_left, exists_eq_left', Option.some.injEq, eH]
  exact ⟨_, at_gt os.2.1, _, rfl, hA⟩


def w_law_moved (C : Addr) : WS :=
    (wTry m_BadStep (wRet (wMeth C 0 "move" sp_Desk_move (wCons (wV 1) (wCons (wV 2) wNil)))) (wRet (wC .none)))
def sp_law_moved : SpO := fun fs ds A _ => ∃ ps dn h d1 d2, fs = fsD ps dn ∧ ds = [d1, d2] ∧ ps.getLast? = some h ∧ h.length ≤ 6 ∧ dn.length < 100 ∧ ps.length ≤ 1000 ∧ typD d1 ≠ "dict" ∧ typD d2 ≠ "dict" ∧ flat d1 = true ∧ flat d2 = true ∧
  match goodS h d1 d2 with
  | some s => A (.int (gt h s.2)) (fsD (ps ++ [beh h s]) (dn ++ [s]))
  | none => A .none (fsD ps dn)
theorem lk_no {x : Str} {p d : PyData} (h1 : (x == ("past" : Str)) = false) (h2 : (x == ("done" : Str)) = false) : List.lookup x (fsG p d) = none := by
  unfold fsG
  rw [List.lookup_cons, h1, List.lookup_cons, h2]
  rfl
theorem lk_move (p d : PyData) : List.lookup ("move" : Str) (fsG p d) = none := lk_no (by decide) (by decide)
theorem lk_undo (p d : PyData) : List.lookup ("undo" : Str) (fsG p d) = none := lk_no (by decide) (by decide)
theorem lk_emp (p d : PyData) : List.lookup ("empties" : Str) (fsG p d) = none := lk_no (by decide) (by decide)
theorem lk_copy (p d : PyData) : List.lookup ("copy" : Str) (fsG p d) = none := lk_no (by decide) (by decide)
theorem pure_law_moved (C : Addr) : PureO C 2 2 sp_law_moved (w_law_moved C) := by
  rintro fs ds A B a dx - ⟨ps, dn, h, d1, d2, rfl, rfl, hl, h6, h100, hps, t1, t2, f1, f2, hA⟩
  simp only [w_law_moved, bl?, g2, gAdd, gDiv, gEq, gGe, gGt, gI, gIn, gInt, gIs, gIsNot, gLe, gLen, gList, gLt, gMM, gMod, gMul, gMulS, gNe, gNotIn, gPow, gSorted, gSub, gIadd, gSum, gTuple, puts, sV, sVs, slotM, wAnd, wApp, wAsg, wAug, wAugI, wB, wC, wCall, wCallR, wChain, wCons, wDraw, wDrop, wEnL, wEnT, wExt, wFn, wFnO, wFor, wGCons, wGNil, wGT, wIL, wIT, wIdx, wIf, wIfS, wIsi, wIx, wLc, wLst, wMNil, wMO, wMV, wMix, wN, wNeg, wNil, wNot, wNotT, wO, wOp, wOr, wOwn, wPar, wR1, wR2, wRaise, wRaiseF, wRet, wSeq, wSet, wSetI, wSkip, wTAnd, wTNot, wTOr, wTru, wTry, wTryF, wTup, wV, wYes, wSplit, wJoin, wRstrip, wFmt, wJNil, wJCons, wJs, gStr, gIntS, wIS, gSignNotIn, wSl, wSlt, wPn, wPs, gMulT, wGL, wTryAs, wXf, wXis, wCat, wCatV, wIxV, wDGet, wDIn, wDInT, wDGet2, wDPut, wDisp1, wOwnD, wMD, wForD, wLcD, wFz, wMv, wMinD, gListD, fzS, wDK, wDT, wFldO, wFldS, wMeth, wProp, wLenO, wCallO, wMake, wNewOb, wNewObL, wMethC, startS, List.length_cons, List.length_nil, List.map_cons, List.map_nil, List.getElem?_cons_zero, List.getElem?_cons_succ, List.set_cons_zero, List.set_cons_succ, List.cons_append, List.nil_append, List.append_nil, List.replicate_succ, List.replicate_zero, Nat.reduceAdd, Nat.reduceSub, ↓reduceIte, Bool.false_eq_true, reduceCtorEq, true_and, and_true, true_or, or_true, false_or, or_false, Bool.not_true, Bool.not_false, Bool.true_and, Bool.false_and, Bool.and_true, decide_eq_true_eq, Bool.not_eq_eq_eq_not, exists_eq_left, exists_eq_left', Option.some.injEq, lk_move]
  refine ⟨⟨a, dx, _, rfl, lk_move _ _⟩, ps, dn, h, d1, d2, rfl, rfl, hl, h6, h100, hps, t1, t2, f1, f2, ?_⟩
  cases hg : goodS h d1 d2 with
  | some s =>
    rw [hg] at hA
    simp only [startS, List.length_cons, List.length_nil, List.map_cons, List.map_nil, List.getElem?_cons_zero, List.getElem?_cons_succ, List.set_cons_zero, List.set_cons_succ, List.cons_append, List.nil_append, List.append_nil, List.replicate_succ, List.replicate_zero, Nat.reduceAdd, Nat.reduceSub, ↓reduceIte, Bool.false_eq_true, reduceCtorEq, true_and, and_true, true_or, or_true, false_or, or_false, Bool.not_true, Bool.not_false, Bool.true_and, Bool.false_and, Bool.and_true, decide_eq_true_eq, Bool.not_eq_eq_eq_not, exists_eq_left, exists_eq_left', Option.some.injEq]
    exact ⟨_, rfl, hA⟩
  | none =>
    rw [hg] at hA
    simp only [m_BadStep, startS, List.length_cons, List.length_nil, List.map_cons, List.map_nil, List.getElem?_cons_zero, List.getElem?_cons_succ, List.set_cons_zero, List.set_cons_succ, List.cons_append, List.nil_append, List.append_nil, List.replicate_succ, List.replicate_zero, Nat.reduceAdd, Nat.reduceSub, ↓reduceIte, Bool.false_eq_true, reduceCtorEq, true_and, and_true, true_or, or_true, false_or, or_false, Bool.not_true, Bool.not_false, Bool.true_and, Bool.false_and, Bool.and_true, decide_eq_true_eq, Bool.not_eq_eq_eq_not, exists_eq_left, exists_eq_left', Option.some.injEq, bl?, g2, gAdd, gDiv, gEq, gGe, gGt, gI, gIn, gInt, gIs, gIsNot, gLe, gLen, gList, gLt, gMM, gMod, gMul, gMulS, gNe, gNotIn, gPow, gSorted, gSub, gIadd, gSum, gTuple, puts, sV, sVs, slotM, wAnd, wApp, wAsg, wAug, wAugI, wB, wC, wCall, wCallR, wChain, wCons, wDraw, wDrop, wEnL, wEnT, wExt, wFn, wFnO, wFor, wGCons, wGNil, wGT, wIL, wIT, wIdx, wIf, wIfS, wIsi, wIx, wLc, wLst, wMNil, wMO, wMV, wMix, wN, wNeg, wNil, wNot, wNotT, wO, wOp, wOr, wOwn, wPar, wR1, wR2, wRaise, wRaiseF, wRet, wSeq, wSet, wSetI, wSkip, wTAnd, wTNot, wTOr, wTru, wTry, wTryF, wTup, wV, wYes, wSplit, wJoin, wRstrip, wFmt, wJNil, wJCons, wJs, gStr, gIntS, wIS, gSignNotIn, wSl, wSlt, wPn, wPs, gMulT, wGL, wTryAs, wXf, wXis, wCat, wCatV, wIxV, wDGet, wDIn, wDInT, wDGet2, wDPut, wDisp1, wOwnD, wMD, wForD, wLcD, wFz, wMv, wMinD, gListD, fzS, wDK, wDT, wFldO, wFldS, wMeth, wProp, wLenO, wCallO, wMake, wNewOb, wNewObL, wMethC]
    exact ⟨_, rfl, hA⟩
def eR (q : List Int × List (Nat × Nat)) : PyData := .tuple [eH q.1, .tuple (q.2.map eP)]
theorem flat_eR (q : List Int × List (Nat × Nat)) : flat (eR q) = true := by
  unfold eR
  simp only [flat, flats, flat_eH, flats_Ps, Bool.and_true, Bool.and_self]
theorem shaped_Ps (p : List (Nat × Nat)) : SeqAt.shaped (.tuple (p.map eP)) = true := shaped_of (by simp only [PyData.canLay0]; exact canLayAll_map canLay_eP p) (by
  have := depthAll_map (f := eP) (n := 1) (fun s => by rw [depth_eP]; exact Nat.le_refl 1) p
  simp only [PyData.depth]
  omega)
theorem eqv_Ps (p q : List (Nat × Nat)) : PyData.eqv (.tuple (p.map eP)) (.tuple (q.map eP)) = decide (p = q) := by
  simp only [PyData.eqv]
  exact eqvAll_map eqv_eP p q
theorem atD_lastR {rs : List (List Int × List (Nat × Nat))} {q : List Int × List (Nat × Nat)} (e : rs.getLast? = some q) : atD (rs.map eR) (-1) = some (eR q) := by
  have hn : rs ≠ [] := fun z => by rw [z] at e; cases e
  have hl := List.length_pos_iff.mpr hn
  unfold atD
  have e1 : ixN (rs.map eR).length (-1) = some (rs.length - 1) := by
    unfold ixN
    rw [List.length_map, if_neg (by decide), if_pos (by omega)]
    congr 1
    omega
  rw [e1]
  show (rs.map eR)[rs.length - 1]? = _
  rw [List.getLast?_eq_getElem?] at e
  rw [List.getElem?_map, e]
  rfl

def w_law_stands (C : Addr) : WS :=
    (wSeq (wAsg (wIx (wV 1) (wNeg (wC (.int 1)))) (wGT 2 (wGCons (wN 2) (wGCons (wN 3) wGNil))))
    (wSeq (wIfS (wTOr (wB (wOp gNe (wProp C 0 sp_Desk_heaps) (wV 2))) (wTOr (wB (wOp gNe (wProp C 0 sp_Desk_plan) (wV 3))) (wB (wOp gNe (wLenO C 0 sp_Desk___len__) (wFn gLen (wCons (wV 3) wNil)))))) (wRet (wC (.bool false))) wSkip)
    (wRet (wOp gEq (wMeth C 0 "empties" sp_Desk_empties wNil) (wFn gLen (wCons (wO (wLc (wIT (wV 2)) (wN 4) (wB (wOp gEq (wV 4) (wC (.int 0)))) (wV 4) [4])) wNil))))))
def sp_law_stands : SpO := fun fs ds A _ => ∃ (ps : List (List Int)) (dn : List (Nat × Nat)) (h : List Int) (rs : List (List Int × List (Nat × Nat))), fs = fsD ps dn ∧ ds = [.list (rs.map eR)] ∧ ps.getLast? = some h ∧ rs.getLast? = some (h, dn) ∧ h.length ≤ 6 ∧ dn.length ≤ 1000 ∧ A (.bool true) (fsD ps dn)
theorem pure_law_stands (C : Addr) : PureO C 4 1 sp_law_stands (w_law_stands C) := by
  rintro fs ds A B a dx - ⟨ps, dn, h, rs, rfl, rfl, hl, hr, h6, hd, hA⟩
  show w_law_stands C [.ob a dx C (fsD ps dn), .im (.list (rs.map eR)), .un, .un, .un] _
  unfold w_law_stands
  refine seq_cut (fun S => S = [.ob a dx C (fsD ps dn), .im (.list (rs.map eR)), .im (eH h), .im (.tuple (dn.map eP)), .un]) (fun Nx hN => ?_) ?_
  · simp only [bl?, g2, gAdd, gDiv, gEq, gGe, gGt, gI, gIn, gInt, gIs, gIsNot, gLe, gLen, gList, gLt, gMM, gMod, gMul, gMulS, gNe, gNotIn, gPow, gSorted, gSub, gIadd, gSum, gTuple, puts, sV, sVs, slotM, wAnd, wApp, wAsg, wAug, wAugI, wB, wC, wCall, wCallR, wChain, wCons, wDraw, wDrop, wEnL, wEnT, wExt, wFn, wFnO, wFor, wGCons, wGNil, wGT, wIL, wIT, wIdx, wIf, wIfS, wIsi, wIx, wLc, wLst, wMNil, wMO, wMV, wMix, wN, wNeg, wNil, wNot, wNotT, wO, wOp, wOr, wOwn, wPar, wR1, wR2, wRaise, wRaiseF, wRet, wSeq, wSet, wSetI, wSkip, wTAnd, wTNot, wTOr, wTru, wTry, wTryF, wTup, wV, wYes, wSplit, wJoin, wRstrip, wFmt, wJNil, wJCons, wJs, gStr, gIntS, wIS, gSignNotIn, wSl, wSlt, wPn, wPs, gMulT, wGL, wTryAs, wXf, wXis, wCat, wCatV, wIxV, wDGet, wDIn, wDInT, wDGet2, wDPut, wDisp1, wOwnD, wMD, wForD, wLcD, wFz, wMv, wMinD, gListD, fzS, wDK, wDT, wFldO, wFldS, wMeth, wProp, wLenO, wCallO, wMake, wNewOb, wNewObL, wMethC, startS, List.length_cons, List.length_nil, List.map_cons, List.map_nil, List.getElem?_cons_zero, List.getElem?_cons_succ, List.set_cons_zero, List.set_cons_succ, List.cons_append, List.nil_append, List.append_nil, List.replicate_succ, List.replicate_zero, Nat.reduceAdd, Nat.reduceSub, ↓reduceIte, Bool.false_eq_true, reduceCtorEq, true_and, and_true, true_or, or_true, false_or, or_false, Bool.not_true, Bool.not_false, Bool.true_and, Bool.false_and, Bool.and_true, decide_eq_true_eq, Bool.not_eq_eq_eq_not, exists_eq_left, exists_eq_left', Option.some.injEq]
    refine ⟨_, atD_lastR hr, ?_⟩
    simp only [eR, startS, List.length_cons, List.length_nil, List.map_cons, List.map_nil, List.getElem?_cons_zero, List.getElem?_cons_succ, List.set_cons_zero, List.set_cons_succ, List.cons_append, List.nil_append, List.append_nil, List.replicate_succ, List.replicate_zero, Nat.reduceAdd, Nat.reduceSub, ↓reduceIte, Bool.false_eq_true, reduceCtorEq, true_and, and_true, true_or, or_true, false_or, or_false, Bool.not_true, Bool.not_false, Bool.true_and, Bool.false_and, Bool.and_true, decide_eq_true_eq, Bool.not_eq_eq_eq_not, exists_eq_left, exists_eq_left', Option.some.injEq]
    exact hN _ rfl
  rintro S rfl
  refine seq_cut (fun S => S = [.ob a dx C (fsD ps dn), .im (.list (rs.map eR)), .im (eH h), .im (.tuple (dn.map eP)), .un]) (fun Nx hN => ?_) ?_
  · simp only [bl?, g2, gAdd, gDiv, gEq, gGe, gGt, gI, gIn, gInt, gIs, gIsNot, gLe, gLen, gList, gLt, gMM, gMod, gMul, gMulS, gNe, gNotIn, gPow, gSorted, gSub, gIadd, gSum, gTuple, puts, sV, sVs, slotM, wAnd, wApp, wAsg, wAug, wAugI, wB, wC, wCall, wCallR, wChain, wCons, wDraw, wDrop, wEnL, wEnT, wExt, wFn, wFnO, wFor, wGCons, wGNil, wGT, wIL, wIT, wIdx, wIf, wIfS, wIsi, wIx, wLc, wLst, wMNil, wMO, wMV, wMix, wN, wNeg, wNil, wNot, wNotT, wO, wOp, wOr, wOwn, wPar, wR1, wR2, wRaise, wRaiseF, wRet, wSeq, wSet, wSetI, wSkip, wTAnd, wTNot, wTOr, wTru, wTry, wTryF, wTup, wV, wYes, wSplit, wJoin, wRstrip, wFmt, wJNil, wJCons, wJs, gStr, gIntS, wIS, gSignNotIn, wSl, wSlt, wPn, wPs, gMulT, wGL, wTryAs, wXf, wXis, wCat, wCatV, wIxV, wDGet, wDIn, wDInT, wDGet2, wDPut, wDisp1, wOwnD, wMD, wForD, wLcD, wFz, wMv, wMinD, gListD, fzS, wDK, wDT, wFldO, wFldS, wMeth, wProp, wLenO, wCallO, wMake, wNewOb, wNewObL, wMethC, startS, List.length_cons, List.length_nil, List.map_cons, List.map_nil, List.getElem?_cons_zero, List.getElem?_cons_succ, List.set_cons_zero, List.set_cons_succ, List.cons_append, List.nil_append, List.append_nil, List.replicate_succ, List.replicate_zero, Nat.reduceAdd, Nat.reduceSub, ↓reduceIte, Bool.false_eq_true, reduceCtorEq, true_and, and_true, true_or, or_true, false_or, or_false, Bool.not_true, Bool.not_false, Bool.true_and, Bool.false_and, Bool.and_true, decide_eq_true_eq, Bool.not_eq_eq_eq_not, exists_eq_left, exists_eq_left', Option.some.injEq]
    refine ⟨ps, dn, h, rfl, rfl, hl, ?_⟩
    simp only [startS, List.length_cons, List.length_nil, List.map_cons, List.map_nil, List.getElem?_cons_zero, List.getElem?_cons_succ, List.set_cons_zero, List.set_cons_succ, List.cons_append, List.nil_append, List.append_nil, List.replicate_succ, List.replicate_zero, Nat.reduceAdd, Nat.reduceSub, ↓reduceIte, Bool.false_eq_true, reduceCtorEq, true_and, and_true, true_or, or_true, false_or, or_false, Bool.not_true, Bool.not_false, Bool.true_and, Bool.false_and, Bool.and_true, decide_eq_true_eq, Bool.not_eq_eq_eq_not, exists_eq_left, exists_eq_left', Option.some.injEq, shaped_eH, eqv_eH, decide_true]
    refine ⟨ps, dn, rfl, rfl, ?_⟩
    simp only [startS, List.length_cons, List.length_nil, List.map_cons, List.map_nil, List.getElem?_cons_zero, List.getElem?_cons_succ, List.set_cons_zero, List.set_cons_succ, List.cons_append, List.nil_append, List.append_nil, List.replicate_succ, List.replicate_zero, Nat.reduceAdd, Nat.reduceSub, ↓reduceIte, Bool.false_eq_true, reduceCtorEq, true_and, and_true, true_or, or_true, false_or, or_false, Bool.not_true, Bool.not_false, Bool.true_and, Bool.false_and, Bool.and_true, decide_eq_true_eq, Bool.not_eq_eq_eq_not, exists_eq_left, exists_eq_left', Option.some.injEq, shaped_Ps, eqv_Ps, decide_true]
    refine ⟨ps, dn, rfl, rfl, ?_⟩
    simp only [startS, List.length_cons, List.length_nil, List.map_cons, List.map_nil, List.getElem?_cons_zero, List.getElem?_cons_succ, List.set_cons_zero, List.set_cons_succ, List.cons_append, List.nil_append, List.append_nil, List.replicate_succ, List.replicate_zero, Nat.reduceAdd, Nat.reduceSub, ↓reduceIte, Bool.false_eq_true, reduceCtorEq, true_and, and_true, true_or, or_true, false_or, or_false, Bool.not_true, Bool.not_false, Bool.true_and, Bool.false_and, Bool.and_true, decide_eq_true_eq, Bool.not_eq_eq_eq_not, exists_eq_left, exists_eq_left', Option.some.injEq, List.length_map, shaped_int, eqv_int, decide_true]
    exact ⟨by omega, by omega, hN _ rfl⟩
  rintro S rfl
  simp only [bl?, g2, gAdd, gDiv, gEq, gGe, gGt, gI, gIn, gInt, gIs, gIsNot, gLe, gLen, gList, gLt, gMM, gMod, gMul, gMulS, gNe, gNotIn, gPow, gSorted, gSub, gIadd, gSum, gTuple, puts, sV, sVs, slotM, wAnd, wApp, wAsg, wAug, wAugI, wB, wC, wCall, wCallR, wChain, wCons, wDraw, wDrop, wEnL, wEnT, wExt, wFn, wFnO, wFor, wGCons, wGNil, wGT, wIL, wIT, wIdx, wIf, wIfS, wIsi, wIx, wLc, wLst, wMNil, wMO, wMV, wMix, wN, wNeg, wNil, wNot, wNotT, wO, wOp, wOr, wOwn, wPar, wR1, wR2, wRaise, wRaiseF, wRet, wSeq, wSet, wSetI, wSkip, wTAnd, wTNot, wTOr, wTru, wTry, wTryF, wTup, wV, wYes, wSplit, wJoin, wRstrip, wFmt, wJNil, wJCons, wJs, gStr, gIntS, wIS, gSignNotIn, wSl, wSlt, wPn, wPs, gMulT, wGL, wTryAs, wXf, wXis, wCat, wCatV, wIxV, wDGet, wDIn, wDInT, wDGet2, wDPut, wDisp1, wOwnD, wMD, wForD, wLcD, wFz, wMv, wMinD, gListD, fzS, wDK, wDT, wFldO, wFldS, wMeth, wProp, wLenO, wCallO, wMake, wNewOb, wNewObL, wMethC, startS, List.length_cons, List.length_nil, List.map_cons, List.map_nil, List.getElem?_cons_zero, List.getElem?_cons_succ, List.set_cons_zero, List.set_cons_succ, List.cons_append, List.nil_append, List.append_nil, List.replicate_succ, List.replicate_zero, Nat.reduceAdd, Nat.reduceSub, ↓reduceIte, Bool.false_eq_true, reduceCtorEq, true_and, and_true, true_or, or_true, false_or, or_false, Bool.not_true, Bool.not_false, Bool.true_and, Bool.false_and, Bool.and_true, decide_eq_true_eq, Bool.not_eq_eq_eq_not, exists_eq_left, exists_eq_left', Option.some.injEq]
  refine ⟨⟨a, dx, _, rfl, lk_emp _ _⟩, ps, dn, h, rfl, rfl, hl, h6, ?_⟩
  simp only [startS, List.length_cons, List.length_nil, List.map_cons, List.map_nil, List.getElem?_cons_zero, List.getElem?_cons_succ, List.set_cons_zero, List.set_cons_succ, List.cons_append, List.nil_append, List.append_nil, List.replicate_succ, List.replicate_zero, Nat.reduceAdd, Nat.reduceSub, ↓reduceIte, Bool.false_eq_true, reduceCtorEq, true_and, and_true, true_or, or_true, false_or, or_false, Bool.not_true, Bool.not_false, Bool.true_and, Bool.false_and, Bool.and_true, decide_eq_true_eq, Bool.not_eq_eq_eq_not, exists_eq_left, exists_eq_left', Option.some.injEq, eH]
  refine ⟨rfl, ?_⟩
  refine lc_ok PyData.int (fun x => decide (x = 0)) PyData.int h [] True (fun x hx Yes No hy hno => ?_) (by simp; omega) trivial fun c' hc' => ?_
  · simp only [bl?, g2, gAdd, gDiv, gEq, gGe, gGt, gI, gIn, gInt, gIs, gIsNot, gLe, gLen, gList, gLt, gMM, gMod, gMul, gMulS, gNe, gNotIn, gPow, gSorted, gSub, gIadd, gSum, gTuple, puts, sV, sVs, slotM, wAnd, wApp, wAsg, wAug, wAugI, wB, wC, wCall, wCallR, wChain, wCons, wDraw, wDrop, wEnL, wEnT, wExt, wFn, wFnO, wFor, wGCons, wGNil, wGT, wIL, wIT, wIdx, wIf, wIfS, wIsi, wIx, wLc, wLst, wMNil, wMO, wMV, wMix, wN, wNeg, wNil, wNot, wNotT, wO, wOp, wOr, wOwn, wPar, wR1, wR2, wRaise, wRaiseF, wRet, wSeq, wSet, wSetI, wSkip, wTAnd, wTNot, wTOr, wTru, wTry, wTryF, wTup, wV, wYes, wSplit, wJoin, wRstrip, wFmt, wJNil, wJCons, wJs, gStr, gIntS, wIS, gSignNotIn, wSl, wSlt, wPn, wPs, gMulT, wGL, wTryAs, wXf, wXis, wCat, wCatV, wIxV, wDGet, wDIn, wDInT, wDGet2, wDPut, wDisp1, wOwnD, wMD, wForD, wLcD, wFz, wMv, wMinD, gListD, fzS, wDK, wDT, wFldO, wFldS, wMeth, wProp, wLenO, wCallO, wMake, wNewOb, wNewObL, wMethC, startS, List.length_cons, List.length_nil, List.map_cons, List.map_nil, List.getElem?_cons_zero, List.getElem?_cons_succ, List.set_cons_zero, List.set_cons_succ, List.cons_append, List.nil_append, List.append_nil, List.replicate_succ, List.replicate_zero, Nat.reduceAdd, Nat.reduceSub, ↓reduceIte, Bool.false_eq_true, reduceCtorEq, true_and, and_true, true_or, or_true, false_or, or_false, Bool.not_true, Bool.not_false, Bool.true_and, Bool.false_and, Bool.and_true, decide_eq_true_eq, Bool.not_eq_eq_eq_not, exists_eq_left, exists_eq_left', Option.some.injEq, wipeS, flat_int, shaped_int, eqv_int]
    by_cases hz : x = 0
    · simp only [hz, if_true]; exact hz ▸ hy (decide_eq_true hz)
    · simp only [hz, if_false]; exact hno (decide_eq_false hz)
  · rw [List.nil_append]
    simp only [bl?, g2, gAdd, gDiv, gEq, gGe, gGt, gI, gIn, gInt, gIs, gIsNot, gLe, gLen, gList, gLt, gMM, gMod, gMul, gMulS, gNe, gNotIn, gPow, gSorted, gSub, gIadd, gSum, gTuple, puts, sV, sVs, slotM, wAnd, wApp, wAsg, wAug, wAugI, wB, wC, wCall, wCallR, wChain, wCons, wDraw, wDrop, wEnL, wEnT, wExt, wFn, wFnO, wFor, wGCons, wGNil, wGT, wIL, wIT, wIdx, wIf, wIfS, wIsi, wIx, wLc, wLst, wMNil, wMO, wMV, wMix, wN, wNeg, wNil, wNot, wNotT, wO, wOp, wOr, wOwn, wPar, wR1, wR2, wRaise, wRaiseF, wRet, wSeq, wSet, wSetI, wSkip, wTAnd, wTNot, wTOr, wTru, wTry, wTryF, wTup, wV, wYes, wSplit, wJoin, wRstrip, wFmt, wJNil, wJCons, wJs, gStr, gIntS, wIS, gSignNotIn, wSl, wSlt, wPn, wPs, gMulT, wGL, wTryAs, wXf, wXis, wCat, wCatV, wIxV, wDGet, wDIn, wDInT, wDGet2, wDPut, wDisp1, wOwnD, wMD, wForD, wLcD, wFz, wMv, wMinD, gListD, fzS, wDK, wDT, wFldO, wFldS, wMeth, wProp, wLenO, wCallO, wMake, wNewOb, wNewObL, wMethC, startS, List.length_cons, List.length_nil, List.map_cons, List.map_nil, List.getElem?_cons_zero, List.getElem?_cons_succ, List.set_cons_zero, List.set_cons_succ, List.cons_append, List.nil_append, List.append_nil, List.replicate_succ, List.replicate_zero, Nat.reduceAdd, Nat.reduceSub, ↓reduceIte, Bool.false_eq_true, reduceCtorEq, true_and, and_true, true_or, or_true, false_or, or_false, Bool.not_true, Bool.not_false, Bool.true_and, Bool.false_and, Bool.and_true, decide_eq_true_eq, Bool.not_eq_eq_eq_not, exists_eq_left, exists_eq_left', Option.some.injEq, List.length_map, shaped_int, eqv_int, zeros, decide_true]
    exact ⟨_, rfl, hA⟩

/-! ### the law -/
abbrev Row := List Int × List (Nat × Nat)
inductive St (n : Nat) : List (List Int) → List (Nat × Nat) → List Row → Prop
  | start {h : List Int} : OkH h → h.length = n → St n [h] [] [(h, [])]
  | step {ps : List (List Int)} {dn : List (Nat × Nat)} {rs : List Row} {h : List Int} {s : Nat × Nat} : St n ps dn rs → ps.getLast? = some h → okS n s → can h s = true → St n (ps ++ [beh h s]) (dn ++ [s]) (rs ++ [(beh h s, dn ++ [s])])
theorem St.last {n : Nat} {ps : List (List Int)} {dn : List (Nat × Nat)} {rs : List Row} (t : St n ps dn rs) : ∃ h, ps.getLast? = some h ∧ rs.getLast? = some (h, dn) ∧ h.length = n := by
  induction t with
  | @start h o hl => exact ⟨h, rfl, rfl, hl⟩
  | @step ps dn rs h s t hp os cs ih =>
    obtain ⟨h', e1, e2, e3⟩ := ih
    rw [hp] at e1
    cases e1
    exact ⟨beh h s, by simp, by simp, by rw [beh_len]; exact e3⟩
theorem St.len {n : Nat} {ps : List (List Int)} {dn : List (Nat × Nat)} {rs : List Row} (t : St n ps dn rs) : ps.length = dn.length + 1 ∧ rs.length = dn.length + 1 := by
  induction t with
  | start _ _ => exact ⟨rfl, rfl⟩
  | step _ _ _ _ ih => simp [ih.1, ih.2]
theorem St.head {n : Nat} {ps : List (List Int)} {dn : List (Nat × Nat)} {rs : List Row} (t : St n ps dn rs) : ∃ h0, ps.head? = some h0 ∧ OkH h0 := by
  induction t with
  | @start h o hl => exact ⟨h, rfl, o⟩
  | @step ps dn rs h s t hp os cs ih =>
    obtain ⟨h0, e, o⟩ := ih
    cases ps with
    | nil => cases e
    | cons x r => exact ⟨h0, e, o⟩
theorem St.undo {n : Nat} {ps : List (List Int)} {dn : List (Nat × Nat)} {rs : List Row} (t : St n ps dn rs) (hd : dn ≠ []) : St n ps.dropLast dn.dropLast rs.dropLast := by
  cases t with
  | start _ _ => exact absurd rfl hd
  | step t _ _ _ => simpa using t
theorem eqv_bool (x y : Bool) : PyData.eqv (.bool x) (.bool y) = decide (x = y) := by cases x <;> cases y <;> simp [PyData.eqv]
theorem flats_eR (rs : List Row) : flats (rs.map eR) = true := flats_map flat_eR rs
/-- behind undo -/
def unP (ps : List (List Int)) (dn : List (Nat × Nat)) : List (List Int) := if dn = [] then ps else ps.dropLast
def unR (rs : List Row) (dn : List (Nat × Nat)) : List Row := if dn = [] then rs else rs.dropLast
theorem St.un {n : Nat} {ps : List (List Int)} {dn : List (Nat × Nat)} {rs : List Row} (t : St n ps dn rs) : St n (unP ps dn) dn.dropLast (unR rs dn) := by
  unfold unP unR
  by_cases hd : dn = []
  · subst hd; exact t
  · rw [if_neg hd, if_neg hd]; exact t.undo hd
theorem fs_un (ps : List (List Int)) (dn : List (Nat × Nat)) : (if dn = [] then fsD ps dn else fsD ps.dropLast dn.dropLast) = fsD (unP ps dn) dn.dropLast := by
  unfold unP
  by_cases hd : dn = []
  · subst hd; rfl
  · rw [if_neg hd, if_neg hd]
theorem cut_rows {n : Nat} {ps : List (List Int)} {dn : List (Nat × Nat)} {rs : List Row} (t : St n ps dn rs) : cutL (rs.map eR) none (some (if ((rs.length : Int) - 1) > 1 then ((rs.length : Int) - 1) else 1)) = (unR rs dn).map eR := by
  have hl := t.len.2
  unfold unR
  by_cases hd : dn = []
  · subst hd
    have h1 : rs.length = 1 := hl
    rw [if_pos rfl, h1, if_neg (by decide)]
    have := cutTake (rs.map eR) 1
    rw [show ((1 : Nat) : Int) = 1 from rfl] at this
    rw [this, List.take_of_length_le (by rw [List.length_map]; omega)]
  · have hd' := List.length_pos_iff.mpr hd
    rw [if_neg hd]
    have e : (if ((rs.length : Int) - 1) > 1 then ((rs.length : Int) - 1) else 1) = ((rs.length - 1 : Nat) : Int) := by
      split <;> omega
    rw [e, cutTake, List.dropLast_eq_take, List.map_take]
def w_law_1 : WS :=
    (wSet 2 (wCallR 1 sp_law_heaps (wCons (wC (.int 2)) (wCons (wC (.int 6)) wNil))))
def w_law_2 : WS :=
    (wSet 3 (wFn gLen (wCons (wV 2) wNil)))
def w_law_3 (C : Addr) : WS :=
    (wNewObL C 4 5 (wMake sp_Desk___init__ (wCons (wV 2) wNil)) (wLst (wCons (wTup (wCons (wV 2) (wCons (wTup wNil) wNil))) wNil)))
def w_law_4 (C : Addr) : WS :=
    (wNewObL C 6 7 (wMethC C 4 "copy" sp_Desk_copy) (wFnO gList (wCons (wV 5) wNil)))
def w_law_5_1 : WS :=
    (wSet 9 (wDraw 1 (wC (.int 9))))
def w_law_5_2 : WS :=
    (wAsg (wIx (wV 5) (wNeg (wC (.int 1)))) (wGT 2 (wGCons (wN 10) (wGCons (wN 11) wGNil))))
def w_law_5_3_1 (C : Addr) : WS :=
    (wIfS (wB (wOp gNe (wMeth C 4 "undo" sp_Desk_undo wNil) (wOp gGt (wFn gLen (wCons (wV 5) wNil)) (wC (.int 1))))) (wRet (wC (.bool false))) wSkip)
def w_law_5_3_2 : WS :=
    (wOwn 5 (wSl (wV 5) wPn (wPs (wFn (g2 fun i j => if j > i then j else i) (wCons (wC (.int 1)) (wCons (wOp gSub (wFn gLen (wCons (wV 5) wNil)) (wC (.int 1))) wNil))))))
def w_law_5_3x_1 : WS :=
    (wSet 12 (wIx (wO (wLst (wCons (wC .none) (wCons (wC (.bool true)) (wCons (wNeg (wC (.int 1))) (wCons (wV 3) (wCons (wC (.str "0")) (wCons (wTup (wCons (wC (.int 0)) wNil)) (wCons (wC (.int 0)) wNil))))))))) (wDraw 1 (wC (.int 7)))))
def w_law_5_3x_2 (C : Addr) : WS :=
    (wIfS (wTOr (wB (wOp gIsNot (wCallO C 4 sp_law_moved (wCons (wC (.int 0)) (wCons (wV 12) wNil))) (wC .none))) (wB (wOp gIsNot (wCallO C 4 sp_law_moved (wCons (wV 12) (wCons (wC (.int 0)) wNil))) (wC .none)))) (wRet (wC (.bool false))) wSkip)
def w_law_5_3xx_1 : WS :=
    (wSet 13 (wIx (wCall sp_law_pairs (wCons (wV 3) wNil)) (wDraw 1 (wOp gMul (wV 3) (wOp gSub (wV 3) (wC (.int 1)))))))
def w_law_5_3xx_2 : WS :=
    (wSet 14 (wO (wLc (wIL (wCall sp_law_pairs (wCons (wV 3) wNil))) (wN 15) (wB (wCall sp_law_can (wCons (wV 10) (wCons (wV 15) wNil)))) (wV 15) [15])))
def w_law_5_3xx_3 : WS :=
    (wIfS (wTAnd (wB (wOp gNe (wV 14) (wO (wLst wNil)))) (wB (wOp gGt (wV 9) (wC (.int 4))))) (wSet 13 (wIx (wV 14) (wDraw 1 (wFn gLen (wCons (wV 14) wNil))))) wSkip)
def w_law_5_3xx_4 (C : Addr) : WS :=
    (wSet 16 (wCallO C 4 sp_law_moved (wCons (wIx (wV 13) (wC (.int 0))) (wCons (wIx (wV 13) (wC (.int 1))) wNil))))
def w_law_5_3xx_5 : WS :=
    (wIfS (wB (wOp gNotIn (wV 13) (wV 14))) (wIfS (wB (wOp gIsNot (wV 16) (wC .none))) (wRet (wC (.bool false))) wSkip) (wIfS (wB (wOp gNe (wV 16) (wIx (wV 10) (wIx (wV 13) (wC (.int 1)))))) (wRet (wC (.bool false))) (wApp 5 (wTup (wCons (wCall sp_law_behind (wCons (wV 10) (wCons (wV 13) wNil))) (wCons (wOp gAdd (wV 11) (wTup (wCons (wV 13) wNil))) wNil))))))
def w_law_5_3 (C : Addr) : WS :=
    (wIfS (wB (wOp gEq (wV 9) (wC (.int 0)))) (wSeq (w_law_5_3_1 C)
    w_law_5_3_2) (wIfS (wB (wOp gEq (wV 9) (wC (.int 1)))) (wNewObL C 6 7 (wMethC C 4 "copy" sp_Desk_copy) (wFnO gList (wCons (wV 5) wNil))) (wIfS (wB (wOp gEq (wV 9) (wC (.int 2)))) (wSeq w_law_5_3x_1
    (w_law_5_3x_2 C)) (wSeq w_law_5_3xx_1
    (wSeq w_law_5_3xx_2
    (wSeq w_law_5_3xx_3
    (wSeq (w_law_5_3xx_4 C)
    w_law_5_3xx_5)))))))
def w_law_5_4 (C : Addr) : WS :=
    (wIfS (wTNot (wB (wCallO C 4 sp_law_stands (wCons (wV 5) wNil)))) (wRet (wC (.bool false))) wSkip)
def w_law_5 (C : Addr) : WS :=
    (wFor (wR1 (wCons (wDraw 1 (wC (.int 21))) wNil)) (wN 8) (wSeq w_law_5_1
    (wSeq w_law_5_2
    (wSeq (w_law_5_3 C)
    (w_law_5_4 C)))))
def w_law_6 (C : Addr) : WS :=
    (wIfS (wTOr (wTNot (wB (wCallO C 6 sp_law_stands (wCons (wV 7) wNil)))) (wB (wOp gNe (wMeth C 6 "undo" sp_Desk_undo wNil) (wOp gGt (wFn gLen (wCons (wV 7) wNil)) (wC (.int 1)))))) (wRet (wC (.bool false))) wSkip)
def w_law_7 (C : Addr) : WS :=
    (wRet (wAnd (wCallO C 6 sp_law_stands (wCons (wO (wSl (wV 7) wPn (wPs (wFn (g2 fun i j => if j > i then j else i) (wCons (wC (.int 1)) (wCons (wOp gSub (wFn gLen (wCons (wV 7) wNil)) (wC (.int 1))) wNil)))))) wNil)) (wCallO C 4 sp_law_stands (wCons (wV 5) wNil))))
def w_law (C : Addr) : WS :=
    (wSeq w_law_1
    (wSeq w_law_2
    (wSeq (w_law_3 C)
    (wSeq (w_law_4 C)
    (wSeq (w_law_5 C)
    (wSeq (w_law_6 C)
    (w_law_7 C)))))))
/-- desk and rows in the frame -/
structure Led (C : Addr) (n k : Nat) (d r : Slot) (ps : List (List Int)) (dn : List (Nat × Nat)) (rs : List Row) : Prop where
  st : St n ps dn rs
  ob : ∃ a dx, d = .ob a dx C (fsD ps dn)
  ol : r = .ol (rs.map eR)
  k : dn.length ≤ k
abbrev fin6 : En := ⟨fun _ => False, fun d _ _ => d = .bool true, fun _ => False, fun _ => False, fun _ _ => False⟩
theorem ffl_D (ps : List (List Int)) (dn : List (Nat × Nat)) : ffl (fsD ps dn) = true := ffl_fsG (by rw [flat]; exact flats_Hs ps) (by rw [flat]; exact flats_Ps dn)
theorem stands_use {n k : Nat} {ps : List (List Int)} {dn : List (Nat × Nat)} {rs : List Row} (t : St n ps dn rs) (hn : n ≤ 6) (hk : dn.length ≤ k) (h20 : k ≤ 1000) {A : PyData → Fs → Prop} {B : XC → Fs → Prop} (hA : A (.bool true) (fsD ps dn)) : sp_law_stands (fsD ps dn) [.list (rs.map eR)] A B := by
  obtain ⟨h, h1, h2, h3⟩ := t.last
  exact ⟨ps, dn, h, rs, rfl, rfl, h1, h2, by omega, by omega, hA⟩
theorem eqv_P0 (p : List (Nat × Nat)) : PyData.eqv (.list (p.map eP)) (.list []) = decide (p = []) := eqv_list eqv_eP p []
theorem shaped_PL (p : List (Nat × Nat)) : SeqAt.shaped (.list (p.map eP)) = true := shaped_list canLay_eP (fun s => by rw [depth_eP]; exact Nat.le_refl 1) (by decide) p
theorem shaped_P0 : SeqAt.shaped (.list []) = true := shaped_PL []
theorem mem_pairs {n : Nat} {s : Nat × Nat} (o : okS n s) : s ∈ pairsOf n := by
  unfold pairsOf
  rw [List.mem_flatMap]
  refine ⟨s.1, List.mem_range.mpr o.1, List.mem_map.mpr ⟨s.2, List.mem_filter.mpr ⟨List.mem_range.mpr o.2.1, ?_⟩, rfl⟩⟩
  simpa using fun z => o.2.2 z.symm
theorem law_turn (C a c : Addr) {n k : Nat} (n2 : 2 ≤ n) (n6 : n ≤ 6) (k20 : k < 21) {s2 s4 s5 s6 s7 s8 s9 s10 s11 s12 s13 s14 s15 s16 : Slot} (h15 : notRng (some s15) = true) {ps pk dn dk rs rk} (L1 : Led C n k s4 s5 ps dn rs) (L2 : Led C n k s6 s7 pk dk rk) (Nx : Slots → Prop)
    (hN : ∀ t4 t5 t6 t7 t9 t10 t11 t12 t13 t14 t15 t16, notRng (some t15) = true → (∃ ps dn rs, Led C n (k + 1) t4 t5 ps dn rs) → (∃ ps dn rs, Led C n (k + 1) t6 t7 ps dn rs) → Nx [.un, .rng a c, s2, .im (.int n), t4, t5, t6, t7, s8, t9, t10, t11, t12, t13, t14, t15, t16]) :
    wSeq w_law_5_1 (wSeq w_law_5_2 (wSeq (w_law_5_3 C) (w_law_5_4 C))) [.un, .rng a c, s2, .im (.int n), s4, s5, s6, s7, s8, s9, s10, s11, s12, s13, s14, s15, s16] { fin6 with nx := Nx } := by
  have e31 : (10 : Int) ^ 31 = 10000000000000000000000000000000 := by decide
  obtain ⟨t1, ⟨ad, dx, rfl⟩, rfl, k1⟩ := L1
  obtain ⟨t2, ⟨ak, dk', rfl⟩, rfl, k2⟩ := L2
  obtain ⟨h, hp, hr, hln⟩ := t1.last
  refine seq_cut (fun S => ∃ kind : Int, 0 ≤ kind ∧ kind < 9 ∧ S = [.un, .rng a c, s2, .im (.int n), .ob ad dx C (fsD ps dn), .ol (rs.map eR), .ob ak dk' C (fsD pk dk), .ol (rk.map eR), s8, .im (.int kind), s10, s11, s12, s13, s14, s15, s16]) (fun Nx hN => ?_) ?_
  · simp only [w_law_5_1, bl?, g2, gAdd, gDiv, gEq, gGe, gGt, gI, gIn, gInt, gIs, gIsNot, gLe, gLen, gList, gLt, gMM, gMod, gMul, gMulS, gNe, gNotIn, gPow, gSorted, gSub, gIadd, gSum, gTuple, puts, sV, sVs, slotM, wAnd, wApp, wAsg, wAug, wAugI, wB, wC, wCall, wCallR, wChain, wCons, wDraw, wDrop, wEnL, wEnT, wExt, wFn, wFnO, wFor, wGCons, wGNil, wGT, wIL, wIT, wIdx, wIf, wIfS, wIsi, wIx, wLc, wLst, wMNil, wMO, wMV, wMix, wN, wNeg, wNil, wNot, wNotT, wO, wOp, wOr, wOwn, wPar, wR1, wR2, wRaise, wRaiseF, wRet, wSeq, wSet, wSetI, wSkip, wTAnd, wTNot, wTOr, wTru, wTry, wTryF, wTup, wV, wYes, wSplit, wJoin, wRstrip, wFmt, wJNil, wJCons, wJs, gStr, gIntS, wIS, gSignNotIn, wSl, wSlt, wPn, wPs, gMulT, wGL, wTryAs, wXf, wXis, wCat, wCatV, wIxV, wDGet, wDIn, wDInT, wDGet2, wDPut, wDisp1, wOwnD, wMD, wForD, wLcD, wFz, wMv, wMinD, gListD, fzS, wDK, wDT, wFldO, wFldS, wMeth, wProp, wLenO, wCallO, wMake, wNewOb, wNewObL, wMethC, startS, List.length_cons, List.length_nil, List.map_cons, List.map_nil, List.getElem?_cons_zero, List.getElem?_cons_succ, List.set_cons_zero, List.set_cons_succ, List.cons_append, List.nil_append, List.append_nil, List.replicate_succ, List.replicate_zero, Nat.reduceAdd, Nat.reduceSub, ↓reduceIte, Bool.false_eq_true, reduceCtorEq, true_and, and_true, true_or, or_true, false_or, or_false, Bool.not_true, Bool.not_false, Bool.true_and, Bool.false_and, Bool.and_true, decide_eq_true_eq, Bool.not_eq_eq_eq_not, exists_eq_left, exists_eq_left', Option.some.injEq]
    exact ⟨a, c, rfl, rfl, by decide, by rw [e31]; decide, fun r r0 r1 => hN _ ⟨r, r0, r1, rfl⟩⟩
  rintro S ⟨kind, kd0, kd9, rfl⟩
  refine seq_cut (fun S => S = [.un, .rng a c, s2, .im (.int n), .ob ad dx C (fsD ps dn), .ol (rs.map eR), .ob ak dk' C (fsD pk dk), .ol (rk.map eR), s8, .im (.int kind), .im (eH h), .im (.tuple (dn.map eP)), s12, s13, s14, s15, s16]) (fun Nx hN => ?_) ?_
  · simp only [w_law_5_2, bl?, g2, gAdd, gDiv, gEq, gGe, gGt, gI, gIn, gInt, gIs, gIsNot, gLe, gLen, gList, gLt, gMM, gMod, gMul, gMulS, gNe, gNotIn, gPow, gSorted, gSub, gIadd, gSum, gTuple, puts, sV, sVs, slotM, wAnd, wApp, wAsg, wAug, wAugI, wB, wC, wCall, wCallR, wChain, wCons, wDraw, wDrop, wEnL, wEnT, wExt, wFn, wFnO, wFor, wGCons, wGNil, wGT, wIL, wIT, wIdx, wIf, wIfS, wIsi, wIx, wLc, wLst, wMNil, wMO, wMV, wMix, wN, wNeg, wNil, wNot, wNotT, wO, wOp, wOr, wOwn, wPar, wR1, wR2, wRaise, wRaiseF, wRet, wSeq, wSet, wSetI, wSkip, wTAnd, wTNot, wTOr, wTru, wTry, wTryF, wTup, wV, wYes, wSplit, wJoin, wRstrip, wFmt, wJNil, wJCons, wJs, gStr, gIntS, wIS, gSignNotIn, wSl, wSlt, wPn, wPs, gMulT, wGL, wTryAs, wXf, wXis, wCat, wCatV, wIxV, wDGet, wDIn, wDInT, wDGet2, wDPut, wDisp1, wOwnD, wMD, wForD, wLcD, wFz, wMv, wMinD, gListD, fzS, wDK, wDT, wFldO, wFldS, wMeth, wProp, wLenO, wCallO, wMake, wNewOb, wNewObL, wMethC, startS, List.length_cons, List.length_nil, List.map_cons, List.map_nil, List.getElem?_cons_zero, List.getElem?_cons_succ, List.set_cons_zero, List.set_cons_succ, List.cons_append, List.nil_append, List.append_nil, List.replicate_succ, List.replicate_zero, Nat.reduceAdd, Nat.reduceSub, ↓reduceIte, Bool.false_eq_true, reduceCtorEq, true_and, and_true, true_or, or_true, false_or, or_false, Bool.not_true, Bool.not_false, Bool.true_and, Bool.false_and, Bool.and_true, decide_eq_true_eq, Bool.not_eq_eq_eq_not, exists_eq_left, exists_eq_left', Option.some.injEq]
    refine ⟨_, atD_lastR hr, ?_⟩
    simp only [eR, startS, List.length_cons, List.length_nil, List.map_cons, List.map_nil, List.getElem?_cons_zero, List.getElem?_cons_succ, List.set_cons_zero, List.set_cons_succ, List.cons_append, List.nil_append, List.append_nil, List.replicate_succ, List.replicate_zero, Nat.reduceAdd, Nat.reduceSub, ↓reduceIte, Bool.false_eq_true, reduceCtorEq, true_and, and_true, true_or, or_true, false_or, or_false, Bool.not_true, Bool.not_false, Bool.true_and, Bool.false_and, Bool.and_true, decide_eq_true_eq, Bool.not_eq_eq_eq_not, exists_eq_left, exists_eq_left', Option.some.injEq]
    exact ⟨.inl (.inl (flats_eR rs)), .inl (.inl (flats_eR rs)), hN _ rfl⟩
  rintro S rfl
  refine seq_cut (fun S => ∃ t4 t5 t6 t7 t12 t13 t14 t15 t16, notRng (some t15) = true ∧ (∃ ps dn rs, Led C n (k + 1) t4 t5 ps dn rs) ∧ (∃ ps dn rs, Led C n (k + 1) t6 t7 ps dn rs) ∧ S = [.un, .rng a c, s2, .im (.int n), t4, t5, t6, t7, s8, .im (.int kind), .im (eH h), .im (.tuple (dn.map eP)), t12, t13, t14, t15, t16]) (fun Nx hN => ?_) ?_
  · have U : ∀ t12 t13 t14 t15 t16, notRng (some t15) = true → ∀ {ps' dn' rs'}, Led C n (k + 1) (.ob ad dx C (fsD ps' dn')) (.ol (rs'.map eR)) ps' dn' rs' → Nx [.un, .rng a c, s2, .im (.int n), .ob ad dx C (fsD ps' dn'), .ol (rs'.map eR), .ob ak dk' C (fsD pk dk), .ol (rk.map eR), s8, .im (.int kind), .im (eH h), .im (.tuple (dn.map eP)), t12, t13, t14, t15, t16] :=
      fun t12 t13 t14 t15 t16 n15 {ps' dn' rs'} l => hN _ ⟨_, _, _, _, t12, t13, t14, t15, t16, n15, ⟨_, _, _, l⟩, ⟨_, _, _, t2, ⟨_, _, rfl⟩, rfl, by omega⟩, rfl⟩
    unfold w_law_5_3
    simp only [wIfS, wB, wOp, gEq, wV, wC, bl?, startS, List.length_cons, List.length_nil, List.map_cons, List.map_nil, List.getElem?_cons_zero, List.getElem?_cons_succ, List.set_cons_zero, List.set_cons_succ, List.cons_append, List.nil_append, List.append_nil, List.replicate_succ, List.replicate_zero, Nat.reduceAdd, Nat.reduceSub, ↓reduceIte, Bool.false_eq_true, reduceCtorEq, true_and, and_true, true_or, or_true, false_or, or_false, Bool.not_true, Bool.not_false, Bool.true_and, Bool.false_and, Bool.and_true, decide_eq_true_eq, Bool.not_eq_eq_eq_not, exists_eq_left, exists_eq_left', Option.some.injEq, shaped_int, eqv_int]
    by_cases c0 : kind = 0
    · subst c0
      simp only [decide_true, if_true]
      refine seq_cut (fun S => S = [.un, .rng a c, s2, .im (.int n), .ob ad dx C (fsD (unP ps dn) dn.dropLast), .ol (rs.map eR), .ob ak dk' C (fsD pk dk), .ol (rk.map eR), s8, .im (.int 0), .im (eH h), .im (.tuple (dn.map eP)), s12, s13, s14, s15, s16]) (fun Nx hN => ?_) ?_
      · simp only [w_law_5_3_1, bl?, g2, gAdd, gDiv, gEq, gGe, gGt, gI, gIn, gInt, gIs, gIsNot, gLe, gLen, gList, gLt, gMM, gMod, gMul, gMulS, gNe, gNotIn, gPow, gSorted, gSub, gIadd, gSum, gTuple, puts, sV, sVs, slotM, wAnd, wApp, wAsg, wAug, wAugI, wB, wC, wCall, wCallR, wChain, wCons, wDraw, wDrop, wEnL, wEnT, wExt, wFn, wFnO, wFor, wGCons, wGNil, wGT, wIL, wIT, wIdx, wIf, wIfS, wIsi, wIx, wLc, wLst, wMNil, wMO, wMV, wMix, wN, wNeg, wNil, wNot, wNotT, wO, wOp, wOr, wOwn, wPar, wR1, wR2, wRaise, wRaiseF, wRet, wSeq, wSet, wSetI, wSkip, wTAnd, wTNot, wTOr, wTru, wTry, wTryF, wTup, wV, wYes, wSplit, wJoin, wRstrip, wFmt, wJNil, wJCons, wJs, gStr, gIntS, wIS, gSignNotIn, wSl, wSlt, wPn, wPs, gMulT, wGL, wTryAs, wXf, wXis, wCat, wCatV, wIxV, wDGet, wDIn, wDInT, wDGet2, wDPut, wDisp1, wOwnD, wMD, wForD, wLcD, wFz, wMv, wMinD, gListD, fzS, wDK, wDT, wFldO, wFldS, wMeth, wProp, wLenO, wCallO, wMake, wNewOb, wNewObL, wMethC, startS, List.length_cons, List.length_nil, List.map_cons, List.map_nil, List.getElem?_cons_zero, List.getElem?_cons_succ, List.set_cons_zero, List.set_cons_succ, List.cons_append, List.nil_append, List.append_nil, List.replicate_succ, List.replicate_zero, Nat.reduceAdd, Nat.reduceSub, ↓reduceIte, Bool.false_eq_true, reduceCtorEq, true_and, and_true, true_or, or_true, false_or, or_false, Bool.not_true, Bool.not_false, Bool.true_and, Bool.false_and, Bool.and_true, decide_eq_true_eq, Bool.not_eq_eq_eq_not, exists_eq_left, exists_eq_left', Option.some.injEq]
        refine ⟨⟨_, _, _, rfl, lk_undo _ _⟩, ps, dn, rfl, rfl, ?_⟩
        rw [fs_un]
        refine ⟨shaped_bool _, shaped_bool _, ?_⟩
        have e : (!decide (dn = [])) = decide (1 < ((rs.map eR).length : Int)) := by
          have := t1.len.2
          rw [List.length_map]
          cases dn with
          | nil => simp at this; simp [this]
          | cons x r => simp at this; simp; omega
        rw [eqv_bool, ← e, if_neg (by simp)]
        exact hN _ rfl
      rintro S rfl
      simp only [w_law_5_3_2, bl?, g2, gAdd, gDiv, gEq, gGe, gGt, gI, gIn, gInt, gIs, gIsNot, gLe, gLen, gList, gLt, gMM, gMod, gMul, gMulS, gNe, gNotIn, gPow, gSorted, gSub, gIadd, gSum, gTuple, puts, sV, sVs, slotM, wAnd, wApp, wAsg, wAug, wAugI, wB, wC, wCall, wCallR, wChain, wCons, wDraw, wDrop, wEnL, wEnT, wExt, wFn, wFnO, wFor, wGCons, wGNil, wGT, wIL, wIT, wIdx, wIf, wIfS, wIsi, wIx, wLc, wLst, wMNil, wMO, wMV, wMix, wN, wNeg, wNil, wNot, wNotT, wO, wOp, wOr, wOwn, wPar, wR1, wR2, wRaise, wRaiseF, wRet, wSeq, wSet, wSetI, wSkip, wTAnd, wTNot, wTOr, wTru, wTry, wTryF, wTup, wV, wYes, wSplit, wJoin, wRstrip, wFmt, wJNil, wJCons, wJs, gStr, gIntS, wIS, gSignNotIn, wSl, wSlt, wPn, wPs, gMulT, wGL, wTryAs, wXf, wXis, wCat, wCatV, wIxV, wDGet, wDIn, wDInT, wDGet2, wDPut, wDisp1, wOwnD, wMD, wForD, wLcD, wFz, wMv, wMinD, gListD, fzS, wDK, wDT, wFldO, wFldS, wMeth, wProp, wLenO, wCallO, wMake, wNewOb, wNewObL, wMethC, startS, List.length_cons, List.length_nil, List.map_cons, List.map_nil, List.getElem?_cons_zero, List.getElem?_cons_succ, List.set_cons_zero, List.set_cons_succ, List.cons_append, List.nil_append, List.append_nil, List.replicate_succ, List.replicate_zero, Nat.reduceAdd, Nat.reduceSub, ↓reduceIte, Bool.false_eq_true, reduceCtorEq, true_and, and_true, true_or, or_true, false_or, or_false, Bool.not_true, Bool.not_false, Bool.true_and, Bool.false_and, Bool.and_true, decide_eq_true_eq, Bool.not_eq_eq_eq_not, exists_eq_left, exists_eq_left', Option.some.injEq, List.length_map]
      rw [cut_rows t1]
      exact ⟨.inl (flats_eR _), U _ _ _ _ _ h15 ⟨t1.un, ⟨_, _, rfl⟩, rfl, by rw [List.length_dropLast]; omega⟩⟩
    · simp only [c0, decide_false, Bool.false_eq_true, if_false]
      by_cases c1 : kind = 1
      · subst c1
        simp only [decide_true, if_true]
        simp only [bl?, g2, gAdd, gDiv, gEq, gGe, gGt, gI, gIn, gInt, gIs, gIsNot, gLe, gLen, gList, gLt, gMM, gMod, gMul, gMulS, gNe, gNotIn, gPow, gSorted, gSub, gIadd, gSum, gTuple, puts, sV, sVs, slotM, wAnd, wApp, wAsg, wAug, wAugI, wB, wC, wCall, wCallR, wChain, wCons, wDraw, wDrop, wEnL, wEnT, wExt, wFn, wFnO, wFor, wGCons, wGNil, wGT, wIL, wIT, wIdx, wIf, wIfS, wIsi, wIx, wLc, wLst, wMNil, wMO, wMV, wMix, wN, wNeg, wNil, wNot, wNotT, wO, wOp, wOr, wOwn, wPar, wR1, wR2, wRaise, wRaiseF, wRet, wSeq, wSet, wSetI, wSkip, wTAnd, wTNot, wTOr, wTru, wTry, wTryF, wTup, wV, wYes, wSplit, wJoin, wRstrip, wFmt, wJNil, wJCons, wJs, gStr, gIntS, wIS, gSignNotIn, wSl, wSlt, wPn, wPs, gMulT, wGL, wTryAs, wXf, wXis, wCat, wCatV, wIxV, wDGet, wDIn, wDInT, wDGet2, wDPut, wDisp1, wOwnD, wMD, wForD, wLcD, wFz, wMv, wMinD, gListD, fzS, wDK, wDT, wFldO, wFldS, wMeth, wProp, wLenO, wCallO, wMake, wNewOb, wNewObL, wMethC, startS, List.length_cons, List.length_nil, List.map_cons, List.map_nil, List.getElem?_cons_zero, List.getElem?_cons_succ, List.set_cons_zero, List.set_cons_succ, List.cons_append, List.nil_append, List.append_nil, List.replicate_succ, List.replicate_zero, Nat.reduceAdd, Nat.reduceSub, ↓reduceIte, Bool.false_eq_true, reduceCtorEq, true_and, and_true, true_or, or_true, false_or, or_false, Bool.not_true, Bool.not_false, Bool.true_and, Bool.false_and, Bool.and_true, decide_eq_true_eq, Bool.not_eq_eq_eq_not, exists_eq_left, exists_eq_left', Option.some.injEq]
        obtain ⟨h0, e0, o0⟩ := t1.head
        exact ⟨lk_copy _ _, ps, dn, h0, rfl, e0, o0, .inl (.inr (flats_eR _)), fun a1 d1 => hN _ ⟨_, _, _, _, s12, s13, s14, s15, s16, h15, ⟨_, _, _, t1, ⟨_, _, rfl⟩, rfl, by omega⟩, ⟨_, _, _, t1, ⟨a1, d1, rfl⟩, rfl, by omega⟩, rfl⟩⟩
      · simp only [c1, decide_false, Bool.false_eq_true, if_false]
        have ln := t1.len
        by_cases c2 : kind = 2
        · subst c2
          simp only [decide_true, if_true]
          refine seq_cut (fun S => ∃ b, flat b = true ∧ typD b ≠ "dict" ∧ goodS h (.int 0) b = none ∧ goodS h b (.int 0) = none ∧ S = [.un, .rng a c, s2, .im (.int n), .ob ad dx C (fsD ps dn), .ol (rs.map eR), .ob ak dk' C (fsD pk dk), .ol (rk.map eR), s8, .im (.int 2), .im (eH h), .im (.tuple (dn.map eP)), .im b, s13, s14, s15, s16]) (fun Nx hN => ?_) ?_
          · simp only [w_law_5_3x_1, bl?, g2, gAdd, gDiv, gEq, gGe, gGt, gI, gIn, gInt, gIs, gIsNot, gLe, gLen, gList, gLt, gMM, gMod, gMul, gMulS, gNe, gNotIn, gPow, gSorted, gSub, gIadd, gSum, gTuple, puts, sV, sVs, slotM, wAnd, wApp, wAsg, wAug, wAugI, wB, wC, wCall, wCallR, wChain, wCons, wDraw, wDrop, wEnL, wEnT, wExt, wFn, wFnO, wFor, wGCons, wGNil, wGT, wIL, wIT, wIdx, wIf, wIfS, wIsi, wIx, wLc, wLst, wMNil, wMO, wMV, wMix, wN, wNeg, wNil, wNot, wNotT, wO, wOp, wOr, wOwn, wPar, wR1, wR2, wRaise, wRaiseF, wRet, wSeq, wSet, wSetI, wSkip, wTAnd, wTNot, wTOr, wTru, wTry, wTryF, wTup, wV, wYes, wSplit, wJoin, wRstrip, wFmt, wJNil, wJCons, wJs, gStr, gIntS, wIS, gSignNotIn, wSl, wSlt, wPn, wPs, gMulT, wGL, wTryAs, wXf, wXis, wCat, wCatV, wIxV, wDGet, wDIn, wDInT, wDGet2, wDPut, wDisp1, wOwnD, wMD, wForD, wLcD, wFz, wMv, wMinD, gListD, fzS, wDK, wDT, wFldO, wFldS, wMeth, wProp, wLenO, wCallO, wMake, wNewOb, wNewObL, wMethC, startS, List.length_cons, List.length_nil, List.map_cons, List.map_nil, List.getElem?_cons_zero, List.getElem?_cons_succ, List.set_cons_zero, List.set_cons_succ, List.cons_append, List.nil_append, List.append_nil, List.replicate_succ, List.replicate_zero, Nat.reduceAdd, Nat.reduceSub, ↓reduceIte, Bool.false_eq_true, reduceCtorEq, true_and, and_true, true_or, or_true, false_or, or_false, Bool.not_true, Bool.not_false, Bool.true_and, Bool.false_and, Bool.and_true, decide_eq_true_eq, Bool.not_eq_eq_eq_not, exists_eq_left, exists_eq_left', Option.some.injEq]
            refine ⟨by decide, by decide, a, c, rfl, rfl, by decide, by rw [e31]; decide, fun r r0 r1 => ?_⟩
            rcases (by omega : r = 0 ∨ r = 1 ∨ r = 2 ∨ r = 3 ∨ r = 4 ∨ r = 5 ∨ r = 6) with rfl | rfl | rfl | rfl | rfl | rfl | rfl
            · exact ⟨_, rfl, hN _ ⟨_, rfl, by simp [typD], rfl, rfl, rfl⟩⟩
            · exact ⟨_, rfl, hN _ ⟨_, rfl, by simp [typD], rfl, rfl, rfl⟩⟩
            · exact ⟨_, rfl, hN _ ⟨_, rfl, by simp [typD], by simp [goodS], by simp [goodS], rfl⟩⟩
            · exact ⟨_, rfl, hN _ ⟨_, rfl, by simp [typD], by simp [goodS, hln], by simp [goodS, hln], rfl⟩⟩
            · exact ⟨_, rfl, hN _ ⟨_, rfl, by simp [typD], rfl, rfl, rfl⟩⟩
            · exact ⟨_, rfl, hN _ ⟨_, rfl, by simp [typD], rfl, rfl, rfl⟩⟩
            · exact ⟨_, rfl, hN _ ⟨_, rfl, by simp [typD], by simp [goodS], by simp [goodS], rfl⟩⟩
          rintro S ⟨b, fb, tb, g1, g2, rfl⟩
          simp only [w_law_5_3x_2, bl?, g2, gAdd, gDiv, gEq, gGe, gGt, gI, gIn, gInt, gIs, gIsNot, gLe, gLen, gList, gLt, gMM, gMod, gMul, gMulS, gNe, gNotIn, gPow, gSorted, gSub, gIadd, gSum, gTuple, puts, sV, sVs, slotM, wAnd, wApp, wAsg, wAug, wAugI, wB, wC, wCall, wCallR, wChain, wCons, wDraw, wDrop, wEnL, wEnT, wExt, wFn, wFnO, wFor, wGCons, wGNil, wGT, wIL, wIT, wIdx, wIf, wIfS, wIsi, wIx, wLc, wLst, wMNil, wMO, wMV, wMix, wN, wNeg, wNil, wNot, wNotT, wO, wOp, wOr, wOwn, wPar, wR1, wR2, wRaise, wRaiseF, wRet, wSeq, wSet, wSetI, wSkip, wTAnd, wTNot, wTOr, wTru, wTry, wTryF, wTup, wV, wYes, wSplit, wJoin, wRstrip, wFmt, wJNil, wJCons, wJs, gStr, gIntS, wIS, gSignNotIn, wSl, wSlt, wPn, wPs, gMulT, wGL, wTryAs, wXf, wXis, wCat, wCatV, wIxV, wDGet, wDIn, wDInT, wDGet2, wDPut, wDisp1, wOwnD, wMD, wForD, wLcD, wFz, wMv, wMinD, gListD, fzS, wDK, wDT, wFldO, wFldS, wMeth, wProp, wLenO, wCallO, wMake, wNewOb, wNewObL, wMethC, startS, List.length_cons, List.length_nil, List.map_cons, List.map_nil, List.getElem?_cons_zero, List.getElem?_cons_succ, List.set_cons_zero, List.set_cons_succ, List.cons_append, List.nil_append, List.append_nil, List.replicate_succ, List.replicate_zero, Nat.reduceAdd, Nat.reduceSub, ↓reduceIte, Bool.false_eq_true, reduceCtorEq, true_and, and_true, true_or, or_true, false_or, or_false, Bool.not_true, Bool.not_false, Bool.true_and, Bool.false_and, Bool.and_true, decide_eq_true_eq, Bool.not_eq_eq_eq_not, exists_eq_left, exists_eq_left', Option.some.injEq]
          refine ⟨⟨_, _, _, rfl⟩, ps, dn, h, _, _, rfl, rfl, hp, by omega, by omega, by omega, by simp [typD], tb, rfl, fb, ?_⟩
          rw [g1]
          refine ⟨⟨_, _, _, rfl⟩, ps, dn, h, _, _, rfl, rfl, hp, by omega, by omega, by omega, tb, by simp [typD], fb, rfl, ?_⟩
          rw [g2]
          exact U _ _ _ _ _ h15 ⟨t1, ⟨_, _, rfl⟩, rfl, by omega⟩
        · simp only [c2, decide_false, Bool.false_eq_true, if_false]
          refine seq_cut (fun S => ∃ s, okS n s ∧ S = [.un, .rng a c, s2, .im (.int n), .ob ad dx C (fsD ps dn), .ol (rs.map eR), .ob ak dk' C (fsD pk dk), .ol (rk.map eR), s8, .im (.int kind), .im (eH h), .im (.tuple (dn.map eP)), s12, .im (eP s), s14, s15, s16]) (fun Nx hN => ?_) ?_
          · simp only [w_law_5_3xx_1, bl?, g2, gAdd, gDiv, gEq, gGe, gGt, gI, gIn, gInt, gIs, gIsNot, gLe, gLen, gList, gLt, gMM, gMod, gMul, gMulS, gNe, gNotIn, gPow, gSorted, gSub, gIadd, gSum, gTuple, puts, sV, sVs, slotM, wAnd, wApp, wAsg, wAug, wAugI, wB, wC, wCall, wCallR, wChain, wCons, wDraw, wDrop, wEnL, wEnT, wExt, wFn, wFnO, wFor, wGCons, wGNil, wGT, wIL, wIT, wIdx, wIf, wIfS, wIsi, wIx, wLc, wLst, wMNil, wMO, wMV, wMix, wN, wNeg, wNil, wNot, wNotT, wO, wOp, wOr, wOwn, wPar, wR1, wR2, wRaise, wRaiseF, wRet, wSeq, wSet, wSetI, wSkip, wTAnd, wTNot, wTOr, wTru, wTry, wTryF, wTup, wV, wYes, wSplit, wJoin, wRstrip, wFmt, wJNil, wJCons, wJs, gStr, gIntS, wIS, gSignNotIn, wSl, wSlt, wPn, wPs, gMulT, wGL, wTryAs, wXf, wXis, wCat, wCatV, wIxV, wDGet, wDIn, wDInT, wDGet2, wDPut, wDisp1, wOwnD, wMD, wForD, wLcD, wFz, wMv, wMinD, gListD, fzS, wDK, wDT, wFldO, wFldS, wMeth, wProp, wLenO, wCallO, wMake, wNewOb, wNewObL, wMethC, startS, List.length_cons, List.length_nil, List.map_cons, List.map_nil, List.getElem?_cons_zero, List.getElem?_cons_succ, List.set_cons_zero, List.set_cons_succ, List.cons_append, List.nil_append, List.append_nil, List.replicate_succ, List.replicate_zero, Nat.reduceAdd, Nat.reduceSub, ↓reduceIte, Bool.false_eq_true, reduceCtorEq, true_and, and_true, true_or, or_true, false_or, or_false, Bool.not_true, Bool.not_false, Bool.true_and, Bool.false_and, Bool.and_true, decide_eq_true_eq, Bool.not_eq_eq_eq_not, exists_eq_left, exists_eq_left', Option.some.injEq]
            refine ⟨n, rfl, n6, ?_⟩
            simp only [startS, List.length_cons, List.length_nil, List.map_cons, List.map_nil, List.getElem?_cons_zero, List.getElem?_cons_succ, List.set_cons_zero, List.set_cons_succ, List.cons_append, List.nil_append, List.append_nil, List.replicate_succ, List.replicate_zero, Nat.reduceAdd, Nat.reduceSub, ↓reduceIte, Bool.false_eq_true, reduceCtorEq, true_and, and_true, true_or, or_true, false_or, or_false, Bool.not_true, Bool.not_false, Bool.true_and, Bool.false_and, Bool.and_true, decide_eq_true_eq, Bool.not_eq_eq_eq_not, exists_eq_left, exists_eq_left', Option.some.injEq]
            have hm : (n : Int) * ((n : Int) - 1) = ((n * (n - 1) : Nat) : Int) := by
              rw [Int.natCast_mul, Int.natCast_sub (by omega)]
              rfl
            have hb : 1 ≤ n * (n - 1) := Nat.mul_le_mul (show 1 ≤ n by omega) (show 1 ≤ n - 1 by omega)
            have hb2 : n * (n - 1) ≤ 6 * 5 := Nat.mul_le_mul n6 (by omega)
            refine ⟨a, c, rfl, wide_mul (a := 10) (b := 10) (by have : (2 : Nat) ^ 10 = 1024 := by decide
                                                                omega) (by have : (2 : Nat) ^ 10 = 1024 := by decide
                                                                           omega) (by decide) (by decide) (by decide), rfl, by rw [hm]; omega, by rw [hm, e31]; omega, fun r r0 r1 => ?_⟩
            rw [hm] at r1
            obtain ⟨j, rfl⟩ := Int.eq_ofNat_of_zero_le r0
            have hj : j < (pairsOf n).length := by rw [pairs_len _ n6]; omega
            exact ⟨_, atD_map (List.getElem?_eq_getElem hj), hN _ ⟨_, pairs_ok _ (List.getElem_mem hj), rfl⟩⟩
          rintro S ⟨s, os, rfl⟩
          refine seq_cut (fun S => ∃ s15, notRng (some s15) = true ∧ S = [.un, .rng a c, s2, .im (.int n), .ob ad dx C (fsD ps dn), .ol (rs.map eR), .ob ak dk' C (fsD pk dk), .ol (rk.map eR), s8, .im (.int kind), .im (eH h), .im (.tuple (dn.map eP)), s12, .im (eP s), .im (.list (((pairsOf n).filter (can h)).map eP)), s15, s16]) (fun Nx hN => ?_) ?_
          · simp only [w_law_5_3xx_2, bl?, g2, gAdd, gDiv, gEq, gGe, gGt, gI, gIn, gInt, gIs, gIsNot, gLe, gLen, gList, gLt, gMM, gMod, gMul, gMulS, gNe, gNotIn, gPow, gSorted, gSub, gIadd, gSum, gTuple, puts, sV, sVs, slotM, wAnd, wApp, wAsg, wAug, wAugI, wB, wC, wCall, wCallR, wChain, wCons, wDraw, wDrop, wEnL, wEnT, wExt, wFn, wFnO, wFor, wGCons, wGNil, wGT, wIL, wIT, wIdx, wIf, wIfS, wIsi, wIx, wLc, wLst, wMNil, wMO, wMV, wMix, wN, wNeg, wNil, wNot, wNotT, wO, wOp, wOr, wOwn, wPar, wR1, wR2, wRaise, wRaiseF, wRet, wSeq, wSet, wSetI, wSkip, wTAnd, wTNot, wTOr, wTru, wTry, wTryF, wTup, wV, wYes, wSplit, wJoin, wRstrip, wFmt, wJNil, wJCons, wJs, gStr, gIntS, wIS, gSignNotIn, wSl, wSlt, wPn, wPs, gMulT, wGL, wTryAs, wXf, wXis, wCat, wCatV, wIxV, wDGet, wDIn, wDInT, wDGet2, wDPut, wDisp1, wOwnD, wMD, wForD, wLcD, wFz, wMv, wMinD, gListD, fzS, wDK, wDT, wFldO, wFldS, wMeth, wProp, wLenO, wCallO, wMake, wNewOb, wNewObL, wMethC, startS, List.length_cons, List.length_nil, List.map_cons, List.map_nil, List.getElem?_cons_zero, List.getElem?_cons_succ, List.set_cons_zero, List.set_cons_succ, List.cons_append, List.nil_append, List.append_nil, List.replicate_succ, List.replicate_zero, Nat.reduceAdd, Nat.reduceSub, ↓reduceIte, Bool.false_eq_true, reduceCtorEq, true_and, and_true, true_or, or_true, false_or, or_false, Bool.not_true, Bool.not_false, Bool.true_and, Bool.false_and, Bool.and_true, decide_eq_true_eq, Bool.not_eq_eq_eq_not, exists_eq_left, exists_eq_left', Option.some.injEq]
            refine ⟨n, rfl, n6, ?_⟩
            simp only [startS, List.length_cons, List.length_nil, List.map_cons, List.map_nil, List.getElem?_cons_zero, List.getElem?_cons_succ, List.set_cons_zero, List.set_cons_succ, List.cons_append, List.nil_append, List.append_nil, List.replicate_succ, List.replicate_zero, Nat.reduceAdd, Nat.reduceSub, ↓reduceIte, Bool.false_eq_true, reduceCtorEq, true_and, and_true, true_or, or_true, false_or, or_false, Bool.not_true, Bool.not_false, Bool.true_and, Bool.false_and, Bool.and_true, decide_eq_true_eq, Bool.not_eq_eq_eq_not, exists_eq_left, exists_eq_left', Option.some.injEq, List.all_cons, List.all_nil, h15]
            refine lc_ok eP (can h) eP (pairsOf n) [] True (fun x hx Yes No hy hno => ?_) (by have := pairs_len n n6; have h3 : n * (n - 1) ≤ 6 * 5 := Nat.mul_le_mul n6 (by omega); simp; omega) trivial fun c' hc' => ?_
            · have ox := pairs_ok x hx
              simp only [bl?, g2, gAdd, gDiv, gEq, gGe, gGt, gI, gIn, gInt, gIs, gIsNot, gLe, gLen, gList, gLt, gMM, gMod, gMul, gMulS, gNe, gNotIn, gPow, gSorted, gSub, gIadd, gSum, gTuple, puts, sV, sVs, slotM, wAnd, wApp, wAsg, wAug, wAugI, wB, wC, wCall, wCallR, wChain, wCons, wDraw, wDrop, wEnL, wEnT, wExt, wFn, wFnO, wFor, wGCons, wGNil, wGT, wIL, wIT, wIdx, wIf, wIfS, wIsi, wIx, wLc, wLst, wMNil, wMO, wMV, wMix, wN, wNeg, wNil, wNot, wNotT, wO, wOp, wOr, wOwn, wPar, wR1, wR2, wRaise, wRaiseF, wRet, wSeq, wSet, wSetI, wSkip, wTAnd, wTNot, wTOr, wTru, wTry, wTryF, wTup, wV, wYes, wSplit, wJoin, wRstrip, wFmt, wJNil, wJCons, wJs, gStr, gIntS, wIS, gSignNotIn, wSl, wSlt, wPn, wPs, gMulT, wGL, wTryAs, wXf, wXis, wCat, wCatV, wIxV, wDGet, wDIn, wDInT, wDGet2, wDPut, wDisp1, wOwnD, wMD, wForD, wLcD, wFz, wMv, wMinD, gListD, fzS, wDK, wDT, wFldO, wFldS, wMeth, wProp, wLenO, wCallO, wMake, wNewOb, wNewObL, wMethC, startS, List.length_cons, List.length_nil, List.map_cons, List.map_nil, List.getElem?_cons_zero, List.getElem?_cons_succ, List.set_cons_zero, List.set_cons_succ, List.cons_append, List.nil_append, List.append_nil, List.replicate_succ, List.replicate_zero, Nat.reduceAdd, Nat.reduceSub, ↓reduceIte, Bool.false_eq_true, reduceCtorEq, true_and, and_true, true_or, or_true, false_or, or_false, Bool.not_true, Bool.not_false, Bool.true_and, Bool.false_and, Bool.and_true, decide_eq_true_eq, Bool.not_eq_eq_eq_not, exists_eq_left, exists_eq_left', Option.some.injEq, wipeS]
              refine can_use (by rw [hln]; exact ox.1) (by rw [hln]; exact ox.2.1) ?_
              cases cg : can h x with
              | true => exact hy cg
              | false => exact hno cg
            · exact ⟨.inl hc', hN _ ⟨s15, h15, rfl⟩⟩
          rintro S ⟨s15, n15, rfl⟩
          refine seq_cut (fun S => ∃ s, okS n s ∧ S = [.un, .rng a c, s2, .im (.int n), .ob ad dx C (fsD ps dn), .ol (rs.map eR), .ob ak dk' C (fsD pk dk), .ol (rk.map eR), s8, .im (.int kind), .im (eH h), .im (.tuple (dn.map eP)), s12, .im (eP s), .im (.list (((pairsOf n).filter (can h)).map eP)), s15, s16]) (fun Nx hN => ?_) ?_
          · simp only [w_law_5_3xx_3, bl?, g2, gAdd, gDiv, gEq, gGe, gGt, gI, gIn, gInt, gIs, gIsNot, gLe, gLen, gList, gLt, gMM, gMod, gMul, gMulS, gNe, gNotIn, gPow, gSorted, gSub, gIadd, gSum, gTuple, puts, sV, sVs, slotM, wAnd, wApp, wAsg, wAug, wAugI, wB, wC, wCall, wCallR, wChain, wCons, wDraw, wDrop, wEnL, wEnT, wExt, wFn, wFnO, wFor, wGCons, wGNil, wGT, wIL, wIT, wIdx, wIf, wIfS, wIsi, wIx, wLc, wLst, wMNil, wMO, wMV, wMix, wN, wNeg, wNil, wNot, wNotT, wO, wOp, wOr, wOwn, wPar, wR1, wR2, wRaise, wRaiseF, wRet, wSeq, wSet, wSetI, wSkip, wTAnd, wTNot, wTOr, wTru, wTry, wTryF, wTup, wV, wYes, wSplit, wJoin, wRstrip, wFmt, wJNil, wJCons, wJs, gStr, gIntS, wIS, gSignNotIn, wSl, wSlt, wPn, wPs, gMulT, wGL, wTryAs, wXf, wXis, wCat, wCatV, wIxV, wDGet, wDIn, wDInT, wDGet2, wDPut, wDisp1, wOwnD, wMD, wForD, wLcD, wFz, wMv, wMinD, gListD, fzS, wDK, wDT, wFldO, wFldS, wMeth, wProp, wLenO, wCallO, wMake, wNewOb, wNewObL, wMethC, startS, List.length_cons, List.length_nil, List.map_cons, List.map_nil, List.getElem?_cons_zero, List.getElem?_cons_succ, List.set_cons_zero, List.set_cons_succ, List.cons_append, List.nil_append, List.append_nil, List.replicate_succ, List.replicate_zero, Nat.reduceAdd, Nat.reduceSub, ↓reduceIte, Bool.false_eq_true, reduceCtorEq, true_and, and_true, true_or, or_true, false_or, or_false, Bool.not_true, Bool.not_false, Bool.true_and, Bool.false_and, Bool.and_true, decide_eq_true_eq, Bool.not_eq_eq_eq_not, exists_eq_left, exists_eq_left', Option.some.injEq, eqv_P0, shaped_P0, shaped_PL]
            refine ⟨by decide, ?_⟩
            by_cases hf : (pairsOf n).filter (can h) = []
            · simp only [hf, decide_true, Bool.not_true, Bool.false_eq_true, if_false, reduceCtorEq]
              exact hN _ ⟨s, os, by rw [hf]⟩
            · have hf' : ((pairsOf n).filter (can h)).length ≠ 0 := fun z => hf (List.length_eq_zero_iff.mp z)
              simp only [hf, decide_false, Bool.not_false, if_true]
              by_cases hk : 4 < kind
              · simp only [hk, decide_true, if_true, List.length_map]
                have hlf := List.length_filter_le (can h) (pairsOf n)
                rw [pairs_len _ n6] at hlf
                have hb2 : n * (n - 1) ≤ 6 * 5 := Nat.mul_le_mul n6 (by omega)
                refine ⟨a, c, rfl, rfl, by omega, by rw [e31]; omega, fun r r0 r1 => ?_⟩
                obtain ⟨j, rfl⟩ := Int.eq_ofNat_of_zero_le r0
                have hj : j < ((pairsOf n).filter (can h)).length := by omega
                exact ⟨_, atD_map (List.getElem?_eq_getElem hj), hN _ ⟨_, pairs_ok _ (List.mem_filter.mp (List.getElem_mem hj)).1, rfl⟩⟩
              · simp only [hk, decide_false, Bool.false_eq_true, if_false]
                exact hN _ ⟨s, os, rfl⟩
          rintro S ⟨s, os, rfl⟩
          have os' : okS h.length s := by rw [hln]; exact os
          have hin : (s ∈ (pairsOf n).filter (can h)) ↔ can h s = true := by
            rw [List.mem_filter]
            exact ⟨fun z => z.2, fun z => ⟨mem_pairs os, z⟩⟩
          cases cg : can h s with
          | false =>
            refine seq_cut (fun S => S = [.un, .rng a c, s2, .im (.int n), .ob ad dx C (fsD ps dn), .ol (rs.map eR), .ob ak dk' C (fsD pk dk), .ol (rk.map eR), s8, .im (.int kind), .im (eH h), .im (.tuple (dn.map eP)), s12, .im (eP s), .im (.list (((pairsOf n).filter (can h)).map eP)), s15, .im .none]) (fun Nx hN => ?_) ?_
            · simp only [w_law_5_3xx_4, bl?, g2, gAdd, gDiv, gEq, gGe, gGt, gI, gIn, gInt, gIs, gIsNot, gLe, gLen, gList, gLt, gMM, gMod, gMul, gMulS, gNe, gNotIn, gPow, gSorted, gSub, gIadd, gSum, gTuple, puts, sV, sVs, slotM, wAnd, wApp, wAsg, wAug, wAugI, wB, wC, wCall, wCallR, wChain, wCons, wDraw, wDrop, wEnL, wEnT, wExt, wFn, wFnO, wFor, wGCons, wGNil, wGT, wIL, wIT, wIdx, wIf, wIfS, wIsi, wIx, wLc, wLst, wMNil, wMO, wMV, wMix, wN, wNeg, wNil, wNot, wNotT, wO, wOp, wOr, wOwn, wPar, wR1, wR2, wRaise, wRaiseF, wRet, wSeq, wSet, wSetI, wSkip, wTAnd, wTNot, wTOr, wTru, wTry, wTryF, wTup, wV, wYes, wSplit, wJoin, wRstrip, wFmt, wJNil, wJCons, wJs, gStr, gIntS, wIS, gSignNotIn, wSl, wSlt, wPn, wPs, gMulT, wGL, wTryAs, wXf, wXis, wCat, wCatV, wIxV, wDGet, wDIn, wDInT, wDGet2, wDPut, wDisp1, wOwnD, wMD, wForD, wLcD, wFz, wMv, wMinD, gListD, fzS, wDK, wDT, wFldO, wFldS, wMeth, wProp, wLenO, wCallO, wMake, wNewOb, wNewObL, wMethC, startS, List.length_cons, List.length_nil, List.map_cons, List.map_nil, List.getElem?_cons_zero, List.getElem?_cons_succ, List.set_cons_zero, List.set_cons_succ, List.cons_append, List.nil_append, List.append_nil, List.replicate_succ, List.replicate_zero, Nat.reduceAdd, Nat.reduceSub, ↓reduceIte, Bool.false_eq_true, reduceCtorEq, true_and, and_true, true_or, or_true, false_or, or_false, Bool.not_true, Bool.not_false, Bool.true_and, Bool.false_and, Bool.and_true, decide_eq_true_eq, Bool.not_eq_eq_eq_not, exists_eq_left, exists_eq_left', Option.some.injEq, eP]
              refine ⟨⟨_, _, _, rfl⟩, _, rfl, _, rfl, ps, dn, h, _, _, rfl, rfl, hp, by omega, by omega, by omega, by simp [typD], by simp [typD], rfl, rfl, ?_⟩
              rw [goodS_none2 cg]
              exact hN _ rfl
            rintro S rfl
            simp only [w_law_5_3xx_5, bl?, g2, gAdd, gDiv, gEq, gGe, gGt, gI, gIn, gInt, gIs, gIsNot, gLe, gLen, gList, gLt, gMM, gMod, gMul, gMulS, gNe, gNotIn, gPow, gSorted, gSub, gIadd, gSum, gTuple, puts, sV, sVs, slotM, wAnd, wApp, wAsg, wAug, wAugI, wB, wC, wCall, wCallR, wChain, wCons, wDraw, wDrop, wEnL, wEnT, wExt, wFn, wFnO, wFor, wGCons, wGNil, wGT, wIL, wIT, wIdx, wIf, wIfS, wIsi, wIx, wLc, wLst, wMNil, wMO, wMV, wMix, wN, wNeg, wNil, wNot, wNotT, wO, wOp, wOr, wOwn, wPar, wR1, wR2, wRaise, wRaiseF, wRet, wSeq, wSet, wSetI, wSkip, wTAnd, wTNot, wTOr, wTru, wTry, wTryF, wTup, wV, wYes, wSplit, wJoin, wRstrip, wFmt, wJNil, wJCons, wJs, gStr, gIntS, wIS, gSignNotIn, wSl, wSlt, wPn, wPs, gMulT, wGL, wTryAs, wXf, wXis, wCat, wCatV, wIxV, wDGet, wDIn, wDInT, wDGet2, wDPut, wDisp1, wOwnD, wMD, wForD, wLcD, wFz, wMv, wMinD, gListD, fzS, wDK, wDT, wFldO, wFldS, wMeth, wProp, wLenO, wCallO, wMake, wNewOb, wNewObL, wMethC, startS, List.length_cons, List.length_nil, List.map_cons, List.map_nil, List.getElem?_cons_zero, List.getElem?_cons_succ, List.set_cons_zero, List.set_cons_succ, List.cons_append, List.nil_append, List.append_nil, List.replicate_succ, List.replicate_zero, Nat.reduceAdd, Nat.reduceSub, ↓reduceIte, Bool.false_eq_true, reduceCtorEq, true_and, and_true, true_or, or_true, false_or, or_false, Bool.not_true, Bool.not_false, Bool.true_and, Bool.false_and, Bool.and_true, decide_eq_true_eq, Bool.not_eq_eq_eq_not, exists_eq_left, exists_eq_left', Option.some.injEq]
            refine ⟨shaped_eP _, shaped_PL _, ?_⟩
            rw [any_map eqv_eP, if_pos (by rw [decide_eq_false_iff_not, hin, cg]; decide)]
            exact U _ _ _ _ _ n15 ⟨t1, ⟨_, _, rfl⟩, rfl, by omega⟩
          | true =>
            refine seq_cut (fun S => S = [.un, .rng a c, s2, .im (.int n), .ob ad dx C (fsD (ps ++ [beh h s]) (dn ++ [s])), .ol (rs.map eR), .ob ak dk' C (fsD pk dk), .ol (rk.map eR), s8, .im (.int kind), .im (eH h), .im (.tuple (dn.map eP)), s12, .im (eP s), .im (.list (((pairsOf n).filter (can h)).map eP)), s15, .im (.int (gt h s.2))]) (fun Nx hN => ?_) ?_
            · simp only [w_law_5_3xx_4, bl?, g2, gAdd, gDiv, gEq, gGe, gGt, gI, gIn, gInt, gIs, gIsNot, gLe, gLen, gList, gLt, gMM, gMod, gMul, gMulS, gNe, gNotIn, gPow, gSorted, gSub, gIadd, gSum, gTuple, puts, sV, sVs, slotM, wAnd, wApp, wAsg, wAug, wAugI, wB, wC, wCall, wCallR, wChain, wCons, wDraw, wDrop, wEnL, wEnT, wExt, wFn, wFnO, wFor, wGCons, wGNil, wGT, wIL, wIT, wIdx, wIf, wIfS, wIsi, wIx, wLc, wLst, wMNil, wMO, wMV, wMix, wN, wNeg, wNil, wNot, wNotT, wO, wOp, wOr, wOwn, wPar, wR1, wR2, wRaise, wRaiseF, wRet, wSeq, wSet, wSetI, wSkip, wTAnd, wTNot, wTOr, wTru, wTry, wTryF, wTup, wV, wYes, wSplit, wJoin, wRstrip, wFmt, wJNil, wJCons, wJs, gStr, gIntS, wIS, gSignNotIn, wSl, wSlt, wPn, wPs, gMulT, wGL, wTryAs, wXf, wXis, wCat, wCatV, wIxV, wDGet, wDIn, wDInT, wDGet2, wDPut, wDisp1, wOwnD, wMD, wForD, wLcD, wFz, wMv, wMinD, gListD, fzS, wDK, wDT, wFldO, wFldS, wMeth, wProp, wLenO, wCallO, wMake, wNewOb, wNewObL, wMethC, startS, List.length_cons, List.length_nil, List.map_cons, List.map_nil, List.getElem?_cons_zero, List.getElem?_cons_succ, List.set_cons_zero, List.set_cons_succ, List.cons_append, List.nil_append, List.append_nil, List.replicate_succ, List.replicate_zero, Nat.reduceAdd, Nat.reduceSub, ↓reduceIte, Bool.false_eq_true, reduceCtorEq, true_and, and_true, true_or, or_true, false_or, or_false, Bool.not_true, Bool.not_false, Bool.true_and, Bool.false_and, Bool.and_true, decide_eq_true_eq, Bool.not_eq_eq_eq_not, exists_eq_left, exists_eq_left', Option.some.injEq, eP]
              refine ⟨⟨_, _, _, rfl⟩, _, rfl, _, rfl, ps, dn, h, _, _, rfl, rfl, hp, by omega, by omega, by omega, by simp [typD], by simp [typD], rfl, rfl, ?_⟩
              rw [goodS_some os' cg]
              exact hN _ rfl
            rintro S rfl
            simp only [w_law_5_3xx_5, bl?, g2, gAdd, gDiv, gEq, gGe, gGt, gI, gIn, gInt, gIs, gIsNot, gLe, gLen, gList, gLt, gMM, gMod, gMul, gMulS, gNe, gNotIn, gPow, gSorted, gSub, gIadd, gSum, gTuple, puts, sV, sVs, slotM, wAnd, wApp, wAsg, wAug, wAugI, wB, wC, wCall, wCallR, wChain, wCons, wDraw, wDrop, wEnL, wEnT, wExt, wFn, wFnO, wFor, wGCons, wGNil, wGT, wIL, wIT, wIdx, wIf, wIfS, wIsi, wIx, wLc, wLst, wMNil, wMO, wMV, wMix, wN, wNeg, wNil, wNot, wNotT, wO, wOp, wOr, wOwn, wPar, wR1, wR2, wRaise, wRaiseF, wRet, wSeq, wSet, wSetI, wSkip, wTAnd, wTNot, wTOr, wTru, wTry, wTryF, wTup, wV, wYes, wSplit, wJoin, wRstrip, wFmt, wJNil, wJCons, wJs, gStr, gIntS, wIS, gSignNotIn, wSl, wSlt, wPn, wPs, gMulT, wGL, wTryAs, wXf, wXis, wCat, wCatV, wIxV, wDGet, wDIn, wDInT, wDGet2, wDPut, wDisp1, wOwnD, wMD, wForD, wLcD, wFz, wMv, wMinD, gListD, fzS, wDK, wDT, wFldO, wFldS, wMeth, wProp, wLenO, wCallO, wMake, wNewOb, wNewObL, wMethC, startS, List.length_cons, List.length_nil, List.map_cons, List.map_nil, List.getElem?_cons_zero, List.getElem?_cons_succ, List.set_cons_zero, List.set_cons_succ, List.cons_append, List.nil_append, List.append_nil, List.replicate_succ, List.replicate_zero, Nat.reduceAdd, Nat.reduceSub, ↓reduceIte, Bool.false_eq_true, reduceCtorEq, true_and, and_true, true_or, or_true, false_or, or_false, Bool.not_true, Bool.not_false, Bool.true_and, Bool.false_and, Bool.and_true, decide_eq_true_eq, Bool.not_eq_eq_eq_not, exists_eq_left, exists_eq_left', Option.some.injEq]
            refine ⟨shaped_eP _, shaped_PL _, ?_⟩
            rw [any_map eqv_eP, if_neg (by intro z; rw [decide_eq_false_iff_not] at z; exact z (hin.mpr cg))]
            refine ⟨.int s.2, rfl, .int (gt h s.2), at_gt os'.2.1, shaped_int _, shaped_int _, ?_⟩
            rw [eqv_int, if_neg (by simp)]
            refine ⟨⟨_, rfl⟩, beh_use os'.1 os'.2.1 ⟨by decide, by rw [List.length_map, sizeLine_eq]; omega, by decide, by rw [List.length_map, sizeLine_eq]; omega, ?_⟩⟩
            have e1 : rs.map eR ++ [PyData.tuple [eH (beh h s), PyData.tuple (dn.map eP ++ [eP s])]] = (rs ++ [(beh h s, dn ++ [s])]).map eR := by
              rw [List.map_append]
              show _ = rs.map eR ++ [eR (beh h s, dn ++ [s])]
              unfold eR
              rw [List.map_append]
              rfl
            rw [e1]
            exact U _ _ _ _ _ n15 ⟨.step t1 hp os cg, ⟨_, _, rfl⟩, rfl, by rw [List.length_append]; show dn.length + 1 ≤ k + 1; omega⟩
  rintro S ⟨t4, t5, t6, t7, t12, t13, t14, t15, t16, n15, ⟨qs, qn, qr, q1, ⟨qa, qx, rfl⟩, rfl, qk⟩, l2, rfl⟩
  simp only [w_law_5_4, bl?, g2, gAdd, gDiv, gEq, gGe, gGt, gI, gIn, gInt, gIs, gIsNot, gLe, gLen, gList, gLt, gMM, gMod, gMul, gMulS, gNe, gNotIn, gPow, gSorted, gSub, gIadd, gSum, gTuple, puts, sV, sVs, slotM, wAnd, wApp, wAsg, wAug, wAugI, wB, wC, wCall, wCallR, wChain, wCons, wDraw, wDrop, wEnL, wEnT, wExt, wFn, wFnO, wFor, wGCons, wGNil, wGT, wIL, wIT, wIdx, wIf, wIfS, wIsi, wIx, wLc, wLst, wMNil, wMO, wMV, wMix, wN, wNeg, wNil, wNot, wNotT, wO, wOp, wOr, wOwn, wPar, wR1, wR2, wRaise, wRaiseF, wRet, wSeq, wSet, wSetI, wSkip, wTAnd, wTNot, wTOr, wTru, wTry, wTryF, wTup, wV, wYes, wSplit, wJoin, wRstrip, wFmt, wJNil, wJCons, wJs, gStr, gIntS, wIS, gSignNotIn, wSl, wSlt, wPn, wPs, gMulT, wGL, wTryAs, wXf, wXis, wCat, wCatV, wIxV, wDGet, wDIn, wDInT, wDGet2, wDPut, wDisp1, wOwnD, wMD, wForD, wLcD, wFz, wMv, wMinD, gListD, fzS, wDK, wDT, wFldO, wFldS, wMeth, wProp, wLenO, wCallO, wMake, wNewOb, wNewObL, wMethC, startS, List.length_cons, List.length_nil, List.map_cons, List.map_nil, List.getElem?_cons_zero, List.getElem?_cons_succ, List.set_cons_zero, List.set_cons_succ, List.cons_append, List.nil_append, List.append_nil, List.replicate_succ, List.replicate_zero, Nat.reduceAdd, Nat.reduceSub, ↓reduceIte, Bool.false_eq_true, reduceCtorEq, true_and, and_true, true_or, or_true, false_or, or_false, Bool.not_true, Bool.not_false, Bool.true_and, Bool.false_and, Bool.and_true, decide_eq_true_eq, Bool.not_eq_eq_eq_not, exists_eq_left, exists_eq_left', Option.some.injEq]
  refine ⟨⟨_, _, _, rfl⟩, stands_use q1 n6 qk (by omega) ?_⟩
  refine ⟨.inr (ffl_D _ _), ?_⟩
  simp
  exact hN _ _ _ _ _ _ _ _ _ _ _ _ n15 ⟨qs, qn, qr, q1, ⟨qa, qx, rfl⟩, rfl, qk⟩ l2

theorem pure_law (C : Addr) : ∀ a c, w_law C ((List.replicate 17 Slot.un).set 1 (.rng a c)) ⟨fun _ => False, fun d _ _ => d = .bool true, fun _ => False, fun _ => False, fun _ _ => False⟩ := by
  intro a c
  have e31 : (10 : Int) ^ 31 = 10000000000000000000000000000000 := by decide
  unfold w_law
  refine seq_cut (fun S => ∃ h, OkH h ∧ S = [.un, .rng a c, .im (eH h), .un, .un, .un, .un, .un, .un, .un, .un, .un, .un, .un, .un, .un, .un]) (fun Nx hN => ?_) ?_
  · simp only [w_law_1, bl?, g2, gAdd, gDiv, gEq, gGe, gGt, gI, gIn, gInt, gIs, gIsNot, gLe, gLen, gList, gLt, gMM, gMod, gMul, gMulS, gNe, gNotIn, gPow, gSorted, gSub, gIadd, gSum, gTuple, puts, sV, sVs, slotM, wAnd, wApp, wAsg, wAug, wAugI, wB, wC, wCall, wCallR, wChain, wCons, wDraw, wDrop, wEnL, wEnT, wExt, wFn, wFnO, wFor, wGCons, wGNil, wGT, wIL, wIT, wIdx, wIf, wIfS, wIsi, wIx, wLc, wLst, wMNil, wMO, wMV, wMix, wN, wNeg, wNil, wNot, wNotT, wO, wOp, wOr, wOwn, wPar, wR1, wR2, wRaise, wRaiseF, wRet, wSeq, wSet, wSetI, wSkip, wTAnd, wTNot, wTOr, wTru, wTry, wTryF, wTup, wV, wYes, wSplit, wJoin, wRstrip, wFmt, wJNil, wJCons, wJs, gStr, gIntS, wIS, gSignNotIn, wSl, wSlt, wPn, wPs, gMulT, wGL, wTryAs, wXf, wXis, wCat, wCatV, wIxV, wDGet, wDIn, wDInT, wDGet2, wDPut, wDisp1, wOwnD, wMD, wForD, wLcD, wFz, wMv, wMinD, gListD, fzS, wDK, wDT, wFldO, wFldS, wMeth, wProp, wLenO, wCallO, wMake, wNewOb, wNewObL, wMethC, startS, List.length_cons, List.length_nil, List.map_cons, List.map_nil, List.getElem?_cons_zero, List.getElem?_cons_succ, List.set_cons_zero, List.set_cons_succ, List.cons_append, List.nil_append, List.append_nil, List.replicate_succ, List.replicate_zero, Nat.reduceAdd, Nat.reduceSub, ↓reduceIte, Bool.false_eq_true, reduceCtorEq, true_and, and_true, true_or, or_true, false_or, or_false, Bool.not_true, Bool.not_false, Bool.true_and, Bool.false_and, Bool.and_true, decide_eq_true_eq, Bool.not_eq_eq_eq_not, exists_eq_left, exists_eq_left', Option.some.injEq]
    refine ⟨a, c, rfl, rfl, 2, 6, rfl, by decide, by decide, by decide, fun h oh l2 l6 => ?_⟩
    exact hN _ ⟨h, oh, rfl⟩
  rintro S ⟨h, oh, rfl⟩
  obtain ⟨n, hn⟩ : ∃ n, h.length = n := ⟨_, rfl⟩
  have n2 : 2 ≤ n := by rw [← hn]; exact oh.l2
  have n6 : n ≤ 6 := by rw [← hn]; exact oh.l6
  refine seq_cut (fun S => S = [.un, .rng a c, .im (eH h), .im (.int n), .un, .un, .un, .un, .un, .un, .un, .un, .un, .un, .un, .un, .un]) (fun Nx hN => ?_) ?_
  · simp only [w_law_2, bl?, g2, gAdd, gDiv, gEq, gGe, gGt, gI, gIn, gInt, gIs, gIsNot, gLe, gLen, gList, gLt, gMM, gMod, gMul, gMulS, gNe, gNotIn, gPow, gSorted, gSub, gIadd, gSum, gTuple, puts, sV, sVs, slotM, wAnd, wApp, wAsg, wAug, wAugI, wB, wC, wCall, wCallR, wChain, wCons, wDraw, wDrop, wEnL, wEnT, wExt, wFn, wFnO, wFor, wGCons, wGNil, wGT, wIL, wIT, wIdx, wIf, wIfS, wIsi, wIx, wLc, wLst, wMNil, wMO, wMV, wMix, wN, wNeg, wNil, wNot, wNotT, wO, wOp, wOr, wOwn, wPar, wR1, wR2, wRaise, wRaiseF, wRet, wSeq, wSet, wSetI, wSkip, wTAnd, wTNot, wTOr, wTru, wTry, wTryF, wTup, wV, wYes, wSplit, wJoin, wRstrip, wFmt, wJNil, wJCons, wJs, gStr, gIntS, wIS, gSignNotIn, wSl, wSlt, wPn, wPs, gMulT, wGL, wTryAs, wXf, wXis, wCat, wCatV, wIxV, wDGet, wDIn, wDInT, wDGet2, wDPut, wDisp1, wOwnD, wMD, wForD, wLcD, wFz, wMv, wMinD, gListD, fzS, wDK, wDT, wFldO, wFldS, wMeth, wProp, wLenO, wCallO, wMake, wNewOb, wNewObL, wMethC, startS, List.length_cons, List.length_nil, List.map_cons, List.map_nil, List.getElem?_cons_zero, List.getElem?_cons_succ, List.set_cons_zero, List.set_cons_succ, List.cons_append, List.nil_append, List.append_nil, List.replicate_succ, List.replicate_zero, Nat.reduceAdd, Nat.reduceSub, ↓reduceIte, Bool.false_eq_true, reduceCtorEq, true_and, and_true, true_or, or_true, false_or, or_false, Bool.not_true, Bool.not_false, Bool.true_and, Bool.false_and, Bool.and_true, decide_eq_true_eq, Bool.not_eq_eq_eq_not, exists_eq_left, exists_eq_left', Option.some.injEq, eH, List.length_map, hn]
    exact hN _ rfl
  rintro S rfl
  refine seq_cut (fun S => ∃ s4 s5, (∃ ps dn rs, Led C n 0 s4 s5 ps dn rs) ∧ S = [.un, .rng a c, .im (eH h), .im (.int n), s4, s5, .un, .un, .un, .un, .un, .un, .un, .un, .un, .un, .un]) (fun Nx hN => ?_) ?_
  · simp only [w_law_3, bl?, g2, gAdd, gDiv, gEq, gGe, gGt, gI, gIn, gInt, gIs, gIsNot, gLe, gLen, gList, gLt, gMM, gMod, gMul, gMulS, gNe, gNotIn, gPow, gSorted, gSub, gIadd, gSum, gTuple, puts, sV, sVs, slotM, wAnd, wApp, wAsg, wAug, wAugI, wB, wC, wCall, wCallR, wChain, wCons, wDraw, wDrop, wEnL, wEnT, wExt, wFn, wFnO, wFor, wGCons, wGNil, wGT, wIL, wIT, wIdx, wIf, wIfS, wIsi, wIx, wLc, wLst, wMNil, wMO, wMV, wMix, wN, wNeg, wNil, wNot, wNotT, wO, wOp, wOr, wOwn, wPar, wR1, wR2, wRaise, wRaiseF, wRet, wSeq, wSet, wSetI, wSkip, wTAnd, wTNot, wTOr, wTru, wTry, wTryF, wTup, wV, wYes, wSplit, wJoin, wRstrip, wFmt, wJNil, wJCons, wJs, gStr, gIntS, wIS, gSignNotIn, wSl, wSlt, wPn, wPs, gMulT, wGL, wTryAs, wXf, wXis, wCat, wCatV, wIxV, wDGet, wDIn, wDInT, wDGet2, wDPut, wDisp1, wOwnD, wMD, wForD, wLcD, wFz, wMv, wMinD, gListD, fzS, wDK, wDT, wFldO, wFldS, wMeth, wProp, wLenO, wCallO, wMake, wNewOb, wNewObL, wMethC, startS, List.length_cons, List.length_nil, List.map_cons, List.map_nil, List.getElem?_cons_zero, List.getElem?_cons_succ, List.set_cons_zero, List.set_cons_succ, List.cons_append, List.nil_append, List.append_nil, List.replicate_succ, List.replicate_zero, Nat.reduceAdd, Nat.reduceSub, ↓reduceIte, Bool.false_eq_true, reduceCtorEq, true_and, and_true, true_or, or_true, false_or, or_false, Bool.not_true, Bool.not_false, Bool.true_and, Bool.false_and, Bool.and_true, decide_eq_true_eq, Bool.not_eq_eq_eq_not, exists_eq_left, exists_eq_left', Option.some.injEq]
    exact ⟨h, rfl, rfl, oh, rfl, by decide, by decide, by decide, fun a1 d1 => hN _ ⟨_, _, ⟨[h], [], [(h, [])], .start oh hn, ⟨a1, d1, rfl⟩, rfl, Nat.le_refl _⟩, rfl⟩⟩
  rintro S ⟨s4, s5, ⟨ps, dn, rs, t1, ⟨ad, dx, rfl⟩, rfl, k1⟩, rfl⟩
  refine seq_cut (fun S => ∃ s4 s5 s6 s7, (∃ ps dn rs, Led C n 0 s4 s5 ps dn rs) ∧ (∃ ps dn rs, Led C n 0 s6 s7 ps dn rs) ∧ S = [.un, .rng a c, .im (eH h), .im (.int n), s4, s5, s6, s7, .un, .un, .un, .un, .un, .un, .un, .un, .un]) (fun Nx hN => ?_) ?_
  · simp only [w_law_4, bl?, g2, gAdd, gDiv, gEq, gGe, gGt, gI, gIn, gInt, gIs, gIsNot, gLe, gLen, gList, gLt, gMM, gMod, gMul, gMulS, gNe, gNotIn, gPow, gSorted, gSub, gIadd, gSum, gTuple, puts, sV, sVs, slotM, wAnd, wApp, wAsg, wAug, wAugI, wB, wC, wCall, wCallR, wChain, wCons, wDraw, wDrop, wEnL, wEnT, wExt, wFn, wFnO, wFor, wGCons, wGNil, wGT, wIL, wIT, wIdx, wIf, wIfS, wIsi, wIx, wLc, wLst, wMNil, wMO, wMV, wMix, wN, wNeg, wNil, wNot, wNotT, wO, wOp, wOr, wOwn, wPar, wR1, wR2, wRaise, wRaiseF, wRet, wSeq, wSet, wSetI, wSkip, wTAnd, wTNot, wTOr, wTru, wTry, wTryF, wTup, wV, wYes, wSplit, wJoin, wRstrip, wFmt, wJNil, wJCons, wJs, gStr, gIntS, wIS, gSignNotIn, wSl, wSlt, wPn, wPs, gMulT, wGL, wTryAs, wXf, wXis, wCat, wCatV, wIxV, wDGet, wDIn, wDInT, wDGet2, wDPut, wDisp1, wOwnD, wMD, wForD, wLcD, wFz, wMv, wMinD, gListD, fzS, wDK, wDT, wFldO, wFldS, wMeth, wProp, wLenO, wCallO, wMake, wNewOb, wNewObL, wMethC, startS, List.length_cons, List.length_nil, List.map_cons, List.map_nil, List.getElem?_cons_zero, List.getElem?_cons_succ, List.set_cons_zero, List.set_cons_succ, List.cons_append, List.nil_append, List.append_nil, List.replicate_succ, List.replicate_zero, Nat.reduceAdd, Nat.reduceSub, ↓reduceIte, Bool.false_eq_true, reduceCtorEq, true_and, and_true, true_or, or_true, false_or, or_false, Bool.not_true, Bool.not_false, Bool.true_and, Bool.false_and, Bool.and_true, decide_eq_true_eq, Bool.not_eq_eq_eq_not, exists_eq_left, exists_eq_left', Option.some.injEq]
    obtain ⟨h0, e0, o0⟩ := t1.head
    exact ⟨lk_copy _ _, ps, dn, h0, rfl, e0, o0, .inl (.inr (flats_eR _)), fun a1 d1 => hN _ ⟨_, _, _, _, ⟨_, _, _, t1, ⟨_, _, rfl⟩, rfl, k1⟩, ⟨_, _, _, t1, ⟨a1, d1, rfl⟩, rfl, k1⟩, rfl⟩⟩
  rintro S ⟨s4, s5, s6, s7, l1, l2, rfl⟩
  refine seq_cut (fun S => ∃ k s4 s5 s6 s7 s8 s9 s10 s11 s12 s13 s14 s15 s16, k ≤ 21 ∧ (∃ ps dn rs, Led C n k s4 s5 ps dn rs) ∧ (∃ ps dn rs, Led C n k s6 s7 ps dn rs) ∧ S = [.un, .rng a c, .im (eH h), .im (.int n), s4, s5, s6, s7, s8, s9, s10, s11, s12, s13, s14, s15, s16]) (fun Nx hN => ?_) ?_
  · simp only [w_law_5, wFor, wR1, wCons, wNil, wDraw, wC, startS, List.length_cons, List.length_nil, List.map_cons, List.map_nil, List.getElem?_cons_zero, List.getElem?_cons_succ, List.set_cons_zero, List.set_cons_succ, List.cons_append, List.nil_append, List.append_nil, List.replicate_succ, List.replicate_zero, Nat.reduceAdd, Nat.reduceSub, ↓reduceIte, Bool.false_eq_true, reduceCtorEq, true_and, and_true, true_or, or_true, false_or, or_false, Bool.not_true, Bool.not_false, Bool.true_and, Bool.false_and, Bool.and_true, decide_eq_true_eq, Bool.not_eq_eq_eq_not, exists_eq_left, exists_eq_left', Option.some.injEq]
    refine ⟨a, c, rfl, rfl, by decide, by rw [e31]; decide, fun r r0 r1 => ⟨by omega, by omega, ?_⟩⟩
    refine for_inv (fun rest S => ∃ k s4 s5 s6 s7 s8 s9 s10 s11 s12 s13 s14 s15 s16, k + rest.length ≤ 21 ∧ notRng (some s15) = true ∧ (∃ ps dn rs, Led C n k s4 s5 ps dn rs) ∧ (∃ ps dn rs, Led C n k s6 s7 ps dn rs) ∧ S = [.un, .rng a c, .im (eH h), .im (.int n), s4, s5, s6, s7, s8, s9, s10, s11, s12, s13, s14, s15, s16]) _ _ ?_ ⟨0, s4, s5, s6, s7, _, _, _, _, _, _, _, .un, _, by unfold rangeD; simp; omega, rfl, l1, l2, rfl⟩ ?_
    · rintro d rest S ⟨k, s4, s5, s6, s7, s8, s9, s10, s11, s12, s13, s14, s15, s16, hk, h15, ⟨ps, dn, rs, l1⟩, ⟨pk, dk, rk, l2⟩, rfl⟩ Nx hN2
      rw [List.length_cons] at hk
      simp only [wN, true_or, true_and, List.set_cons_succ, List.set_cons_zero]
      exact law_turn C a c n2 n6 (k := k) (by omega) h15 l1 l2 Nx fun t4 t5 t6 t7 t9 t10 t11 t12 t13 t14 t15 t16 n15 m1 m2 => hN2 _ ⟨k + 1, _, _, _, _, _, _, _, _, _, _, _, _, _, by omega, n15, m1, m2, rfl⟩
    · rintro S ⟨k, s4, s5, s6, s7, s8, s9, s10, s11, s12, s13, s14, s15, s16, hk, h15, l1, l2, rfl⟩
      exact hN _ ⟨k, _, _, _, _, _, _, _, _, _, _, _, _, _, by simpa using hk, l1, l2, rfl⟩
  rintro S ⟨k, s4, s5, s6, s7, s8, s9, s10, s11, s12, s13, s14, s15, s16, hk, ⟨ps, dn, rs, t1, ⟨ad, dx, rfl⟩, rfl, k1⟩, ⟨pk, dk, rk, t2, ⟨ak, xk, rfl⟩, rfl, k2⟩, rfl⟩
  refine seq_cut (fun S => S = [.un, .rng a c, .im (eH h), .im (.int n), .ob ad dx C (fsD ps dn), .ol (rs.map eR), .ob ak xk C (fsD (unP pk dk) dk.dropLast), .ol (rk.map eR), s8, s9, s10, s11, s12, s13, s14, s15, s16]) (fun Nx hN => ?_) ?_
  · simp only [w_law_6, bl?, g2, gAdd, gDiv, gEq, gGe, gGt, gI, gIn, gInt, gIs, gIsNot, gLe, gLen, gList, gLt, gMM, gMod, gMul, gMulS, gNe, gNotIn, gPow, gSorted, gSub, gIadd, gSum, gTuple, puts, sV, sVs, slotM, wAnd, wApp, wAsg, wAug, wAugI, wB, wC, wCall, wCallR, wChain, wCons, wDraw, wDrop, wEnL, wEnT, wExt, wFn, wFnO, wFor, wGCons, wGNil, wGT, wIL, wIT, wIdx, wIf, wIfS, wIsi, wIx, wLc, wLst, wMNil, wMO, wMV, wMix, wN, wNeg, wNil, wNot, wNotT, wO, wOp, wOr, wOwn, wPar, wR1, wR2, wRaise, wRaiseF, wRet, wSeq, wSet, wSetI, wSkip, wTAnd, wTNot, wTOr, wTru, wTry, wTryF, wTup, wV, wYes, wSplit, wJoin, wRstrip, wFmt, wJNil, wJCons, wJs, gStr, gIntS, wIS, gSignNotIn, wSl, wSlt, wPn, wPs, gMulT, wGL, wTryAs, wXf, wXis, wCat, wCatV, wIxV, wDGet, wDIn, wDInT, wDGet2, wDPut, wDisp1, wOwnD, wMD, wForD, wLcD, wFz, wMv, wMinD, gListD, fzS, wDK, wDT, wFldO, wFldS, wMeth, wProp, wLenO, wCallO, wMake, wNewOb, wNewObL, wMethC, startS, List.length_cons, List.length_nil, List.map_cons, List.map_nil, List.getElem?_cons_zero, List.getElem?_cons_succ, List.set_cons_zero, List.set_cons_succ, List.cons_append, List.nil_append, List.append_nil, List.replicate_succ, List.replicate_zero, Nat.reduceAdd, Nat.reduceSub, ↓reduceIte, Bool.false_eq_true, reduceCtorEq, true_and, and_true, true_or, or_true, false_or, or_false, Bool.not_true, Bool.not_false, Bool.true_and, Bool.false_and, Bool.and_true, decide_eq_true_eq, Bool.not_eq_eq_eq_not, exists_eq_left, exists_eq_left', Option.some.injEq]
    refine ⟨⟨_, _, _, rfl⟩, stands_use t2 n6 k2 (by omega) ⟨.inr (ffl_D _ _), ?_⟩⟩
    simp only [startS, List.length_cons, List.length_nil, List.map_cons, List.map_nil, List.getElem?_cons_zero, List.getElem?_cons_succ, List.set_cons_zero, List.set_cons_succ, List.cons_append, List.nil_append, List.append_nil, List.replicate_succ, List.replicate_zero, Nat.reduceAdd, Nat.reduceSub, ↓reduceIte, Bool.false_eq_true, reduceCtorEq, true_and, and_true, true_or, or_true, false_or, or_false, Bool.not_true, Bool.not_false, Bool.true_and, Bool.false_and, Bool.and_true, decide_eq_true_eq, Bool.not_eq_eq_eq_not, exists_eq_left, exists_eq_left', Option.some.injEq]
    refine ⟨⟨_, _, _, rfl, lk_undo _ _⟩, pk, dk, rfl, rfl, ?_⟩
    rw [fs_un]
    refine ⟨shaped_bool _, shaped_bool _, ?_⟩
    have e : (!decide (dk = [])) = decide (1 < ((rk.map eR).length : Int)) := by
      have := t2.len.2
      rw [List.length_map]
      cases dk with
      | nil => simp at this; simp [this]
      | cons x r => simp at this; simp; omega
    rw [eqv_bool, ← e, if_neg (by simp)]
    exact hN _ rfl
  rintro S rfl
  simp only [w_law_7, bl?, g2, gAdd, gDiv, gEq, gGe, gGt, gI, gIn, gInt, gIs, gIsNot, gLe, gLen, gList, gLt, gMM, gMod, gMul, gMulS, gNe, gNotIn, gPow, gSorted, gSub, gIadd, gSum, gTuple, puts, sV, sVs, slotM, wAnd, wApp, wAsg, wAug, wAugI, wB, wC, wCall, wCallR, wChain, wCons, wDraw, wDrop, wEnL, wEnT, wExt, wFn, wFnO, wFor, wGCons, wGNil, wGT, wIL, wIT, wIdx, wIf, wIfS, wIsi, wIx, wLc, wLst, wMNil, wMO, wMV, wMix, wN, wNeg, wNil, wNot, wNotT, wO, wOp, wOr, wOwn, wPar, wR1, wR2, wRaise, wRaiseF, wRet, wSeq, wSet, wSetI, wSkip, wTAnd, wTNot, wTOr, wTru, wTry, wTryF, wTup, wV, wYes, wSplit, wJoin, wRstrip, wFmt, wJNil, wJCons, wJs, gStr, gIntS, wIS, gSignNotIn, wSl, wSlt, wPn, wPs, gMulT, wGL, wTryAs, wXf, wXis, wCat, wCatV, wIxV, wDGet, wDIn, wDInT, wDGet2, wDPut, wDisp1, wOwnD, wMD, wForD, wLcD, wFz, wMv, wMinD, gListD, fzS, wDK, wDT, wFldO, wFldS, wMeth, wProp, wLenO, wCallO, wMake, wNewOb, wNewObL, wMethC, startS, List.length_cons, List.length_nil, List.map_cons, List.map_nil, List.getElem?_cons_zero, List.getElem?_cons_succ, List.set_cons_zero, List.set_cons_succ, List.cons_append, List.nil_append, List.append_nil, List.replicate_succ, List.replicate_zero, Nat.reduceAdd, Nat.reduceSub, ↓reduceIte, Bool.false_eq_true, reduceCtorEq, true_and, and_true, true_or, or_true, false_or, or_false, Bool.not_true, Bool.not_false, Bool.true_and, Bool.false_and, Bool.and_true, decide_eq_true_eq, Bool.not_eq_eq_eq_not, exists_eq_left, exists_eq_left', Option.some.injEq, List.length_map]
  rw [cut_rows t2]
  refine ⟨⟨_, _, _, rfl⟩, stands_use t2.un n6 (k := k) (by rw [List.length_dropLast]; omega) (by omega) ⟨.inr (ffl_D _ _), ?_⟩⟩
  simp only [startS, List.length_cons, List.length_nil, List.map_cons, List.map_nil, List.getElem?_cons_zero, List.getElem?_cons_succ, List.set_cons_zero, List.set_cons_succ, List.cons_append, List.nil_append, List.append_nil, List.replicate_succ, List.replicate_zero, Nat.reduceAdd, Nat.reduceSub, ↓reduceIte, Bool.false_eq_true, reduceCtorEq, true_and, and_true, true_or, or_true, false_or, or_false, Bool.not_true, Bool.not_false, Bool.true_and, Bool.false_and, Bool.and_true, decide_eq_true_eq, Bool.not_eq_eq_eq_not, exists_eq_left, exists_eq_left', Option.some.injEq]
  exact ⟨⟨_, _, _, rfl⟩, stands_use t1 n6 k1 (by omega) ⟨.inr (ffl_D _ _), rfl⟩⟩
end Pu


namespace Pu
open PySem L2
def top (i : Nat) : Stmt := PySem.Challenge.pw_heapsdouble_k06_whole_led_desk.main.body.getD i (.Pass ⟨0, 0, 0, 0⟩)
def inC (st : Stmt) (i : Nat) : Stmt := match st with
  | .ClassDef _ _ _ b _ _ _ _ _ _ _ => b.getD i (.Pass ⟨0, 0, 0, 0⟩)
  | st => st
structure Txt (K : PySem.W.Frag) (mg : Str → Option Value) : Prop where
  f_is_integer : ∃ (f : Addr) (fd : FuncData), Fun K "is_integer" "is_integer" (top 9) f fd ∧ mg "is_integer" = some (.ref f)
  f_is_from : ∃ (f : Addr) (fd : FuncData), Fun K "is_from" "is_from" (top 10) f fd ∧ mg "is_from" = some (.ref f)
  f_check_heaps : ∃ (f : Addr) (fd : FuncData), Fun K "check_heaps" "check_heaps" (top 11) f fd ∧ mg "check_heaps" = some (.ref f)
  f_law_behind : ∃ (f : Addr) (fd : FuncData), Fun K "_law_behind" "_law_behind" (top 23) f fd ∧ mg "_law_behind" = some (.ref f)
  f_law_can : ∃ (f : Addr) (fd : FuncData), Fun K "_law_can" "_law_can" (top 22) f fd ∧ mg "_law_can" = some (.ref f)
  f_law_heaps : ∃ (f : Addr) (fd : FuncData), Fun K "_law_heaps" "_law_heaps" (top 21) f fd ∧ mg "_law_heaps" = some (.ref f)
  f_behind : ∃ (f : Addr) (fd : FuncData), Fun K "behind" "behind" (top 14) f fd ∧ mg "behind" = some (.ref f)
  f_can_be_made : ∃ (f : Addr) (fd : FuncData), Fun K "can_be_made" "can_be_made" (top 13) f fd ∧ mg "can_be_made" = some (.ref f)
  f_is_step : ∃ (f : Addr) (fd : FuncData), Fun K "is_step" "is_step" (top 12) f fd ∧ mg "is_step" = some (.ref f)
  f_law_moved : ∃ (f : Addr) (fd : FuncData), Fun K "_law_moved" "_law_moved" (top 25) f fd ∧ mg "_law_moved" = some (.ref f)
  f_law_pairs : ∃ (f : Addr) (fd : FuncData), Fun K "_law_pairs" "_law_pairs" (top 24) f fd ∧ mg "_law_pairs" = some (.ref f)
  f_law_stands : ∃ (f : Addr) (fd : FuncData), Fun K "_law_stands" "_law_stands" (top 26) f fd ∧ mg "_law_stands" = some (.ref f)
  f_law : ∃ (f : Addr) (fd : FuncData), Fun K "law" "law" (top 27) f fd ∧ mg "law" = some (.ref f)
  f_law_mix : ∃ (f : Addr) (fd : FuncData), Fun K "_law_mix" "_law_mix" (top 19) f fd ∧ mg "_law_mix" = some (.ref f)
  f_law_next : ∃ (f : Addr) (fd : FuncData), Fun K "_law_next" "_law_next" (top 20) f fd ∧ mg "_law_next" = some (.ref f)
  b_bool : mg "bool" = none
  b_int : mg "int" = none
  b_isinstance : mg "isinstance" = none
  b_len : mg "len" = none
  b_list : mg "list" = none
  b_max : mg "max" = none
  b_range : mg "range" = none
  b_tuple : mg "tuple" = none
  c_LEAST_HEAPS : ∃ t, mg "LEAST_HEAPS" = some (.int 2 t)
  c_MOST_HEAPS : ∃ t, mg "MOST_HEAPS" = some (.int 6 t)
  c_MOST_IN_HEAP : ∃ t, mg "MOST_IN_HEAP" = some (.int 1000000000000000000000000000000 t)
  c_MOST_MADE : ∃ t, mg "MOST_MADE" = some (.int 100 t)
  r_BadHeaps : RaiseC K mg "BadHeaps"
  r_BadStep : RaiseC K mg "BadStep"
  r_Full : RaiseC K mg "Full"
  x_BadStep : ∃ C, mg "BadStep" = some (.ref C) ∧ Catch K mg C m_BadStep ∧ XfC K C ∧ True
  oD : ∃ C, mg "Desk" = some (.ref C) ∧ Cls K C ∧ NoAttr K C "past" ∧ NoAttr K C "done" ∧ (∃ (f : Addr) (fd : FuncData), Mk K C f ∧ Fun K "__init__" "Desk.__init__" (inC (top 17) 0) f fd) ∧ (∃ (f : Addr) (fd : FuncData), Meth K C "copy" f ∧ Fun K "copy" "Desk.copy" (inC (top 17) 6) f fd) ∧ (∃ (f : Addr) (fd : FuncData), Meth K C "undo" f ∧ Fun K "undo" "Desk.undo" (inC (top 17) 5) f fd) ∧ (∃ (f : Addr) (fd : FuncData), Meth K C "move" f ∧ Fun K "move" "Desk.move" (inC (top 17) 3) f fd) ∧ (∃ (f : Addr) (fd : FuncData), Meth K C "__len__" f ∧ Fun K "__len__" "Desk.__len__" (inC (top 17) 7) f fd) ∧ (∃ (f : Addr) (fd : FuncData), Meth K C "empties" f ∧ Fun K "empties" "Desk.empties" (inC (top 17) 4) f fd) ∧ (∃ (p g : Addr) (fd : FuncData), PropOf K C "heaps" p g ∧ Fun K "heaps" "Desk.heaps" (inC (top 17) 1) g fd) ∧ (∃ (p g : Addr) (fd : FuncData), PropOf K C "plan" p g ∧ Fun K "plan" "Desk.plan" (inC (top 17) 2) g fd)
section
variable {P : Program} {w : World} {K : PySem.W.Frag} {mg : Str → Option Value} {base : Heap}
noncomputable def cD (T : Txt K mg) : Addr := T.oD.choose
theorem oD_mg (T : Txt K mg) : mg "Desk" = some (.ref (cD T)) := T.oD.choose_spec.1
theorem oD_cls (T : Txt K mg) : Cls K (cD T) := T.oD.choose_spec.2.1
theorem oD_past (T : Txt K mg) : NoAttr K (cD T) "past" := T.oD.choose_spec.2.2.1
theorem oD_done (T : Txt K mg) : NoAttr K (cD T) "done" := T.oD.choose_spec.2.2.2.1
theorem oD_Desk___init__ (T : Txt K mg) : (∃ (f : Addr) (fd : FuncData), Mk K (cD T) f ∧ Fun K "__init__" "Desk.__init__" (inC (top 17) 0) f fd) := T.oD.choose_spec.2.2.2.2.1
theorem oD_Desk_copy (T : Txt K mg) : (∃ (f : Addr) (fd : FuncData), Meth K (cD T) "copy" f ∧ Fun K "copy" "Desk.copy" (inC (top 17) 6) f fd) := T.oD.choose_spec.2.2.2.2.2.1
theorem oD_Desk_undo (T : Txt K mg) : (∃ (f : Addr) (fd : FuncData), Meth K (cD T) "undo" f ∧ Fun K "undo" "Desk.undo" (inC (top 17) 5) f fd) := T.oD.choose_spec.2.2.2.2.2.2.1
theorem oD_Desk_move (T : Txt K mg) : (∃ (f : Addr) (fd : FuncData), Meth K (cD T) "move" f ∧ Fun K "move" "Desk.move" (inC (top 17) 3) f fd) := T.oD.choose_spec.2.2.2.2.2.2.2.1
theorem oD_Desk___len__ (T : Txt K mg) : (∃ (f : Addr) (fd : FuncData), Meth K (cD T) "__len__" f ∧ Fun K "__len__" "Desk.__len__" (inC (top 17) 7) f fd) := T.oD.choose_spec.2.2.2.2.2.2.2.2.1
theorem oD_Desk_empties (T : Txt K mg) : (∃ (f : Addr) (fd : FuncData), Meth K (cD T) "empties" f ∧ Fun K "empties" "Desk.empties" (inC (top 17) 4) f fd) := T.oD.choose_spec.2.2.2.2.2.2.2.2.2.1
theorem oD_Desk_heaps (T : Txt K mg) : (∃ (p g : Addr) (fd : FuncData), PropOf K (cD T) "heaps" p g ∧ Fun K "heaps" "Desk.heaps" (inC (top 17) 1) g fd) := T.oD.choose_spec.2.2.2.2.2.2.2.2.2.2.1
theorem oD_Desk_plan (T : Txt K mg) : (∃ (p g : Addr) (fd : FuncData), PropOf K (cD T) "plan" p g ∧ Fun K "plan" "Desk.plan" (inC (top 17) 2) g fd) := T.oD.choose_spec.2.2.2.2.2.2.2.2.2.2.2
theorem sc_next : FnScope ["_law_h", "_law_bound", "_law_cell", "_law_cells"] ["_law_h", "_law_bound"] (defScope (top 20)) := ⟨rfl, rfl, rfl, by decide +kernel, rfl, by decide +kernel, by decide +kernel⟩
theorem ok_next {f : Addr} {fd : FuncData} {k : Nat} (T : Txt K mg) (F : Fun K "_law_next" "_law_next" (top 20) f fd) : FnOk P w K mg base (L2.CX P w) (k + 1) f fd ["_law_h", "_law_bound"] spNext := by
  refine F.okX sc_next (fun vs H Q E h => by obtain ⟨a, c, n, rfl, _⟩ := h; rfl) (fun cdv A outer s H vs Q E hr h => ?_)
  obtain ⟨a, c, n, rfl, hac, ⟨st, ix, ns, h1, h2, h3⟩, n1, n2, q⟩ := h
  have nd := sc_next.nd
  have e31 : (10 : Int) ^ 31 = 10000000000000000000000000000000 := by decide
  have e110 : (2 : Nat) ^ 110 = 1298074214633706907132624082305024 := by decide
  have hn : n.natAbs < 2 ^ 110 := by rw [e110]; rw [e31] at n2; omega
  refine ⟨_, pss_cons (ps_set (i := 2) nd rfl (.inl rfl) (pe_ix ix_seq (pe_op op_cat (pe_ix ix_seq (pe_var (i := 0) rfl (.inl rfl)) pe_int (fun _ _ => rfl)) (pe_lst (pa_cons pe_int pa_nil)))
      (pe_op op_modN (pe_callTy call_int1 rfl T.b_int bt_int (pa_cons (pe_ix ix_seq (pe_var (i := 0) rfl (.inl rfl)) pe_int (fun _ _ => rfl)) pa_nil)) (pe_callB (call_max2 rfl) rfl T.b_max bb_max (pa_cons pe_int (pa_cons (pe_callB call_len rfl T.b_len bb_len (pa_cons (pe_ix ix_seq (pe_var (i := 0) rfl (.inl rfl)) pe_int (fun _ _ => rfl)) pa_nil)) pa_nil)))) (fun _ _ => rfl)))
    (pss_cons (ps_if (pt_cmpR op_ge (pe_var (i := 2) rfl (.inl rfl)) (pe_op op_pow pe_int pe_int) (by first | exact nobehind _ (by decide) (by decide) | rfl))
      (pss_cons (ps_set (i := 3) nd rfl (.inl rfl) (pe_ix ix_seq (pe_var (i := 0) rfl (.inl rfl)) pe_int (fun _ _ => rfl)))
        (pss_cons (ps_asg (pe_op op_fdivW (pe_var (i := 2) rfl (.inl rfl)) (pe_var (i := 1) rfl (.inl rfl))) (pg_sub (pe_var (i := 3) rfl (.inl rfl)) (pe_op op_modN (pe_callTy call_int1 rfl T.b_int bt_int (pa_cons (pe_ix ix_seq (pe_var (i := 0) rfl (.inl rfl)) pe_int (fun _ _ => rfl)) pa_nil)) (pe_callB call_len rfl T.b_len bb_len (pa_cons (pe_var (i := 3) rfl (.inl rfl)) pa_nil))) set_list (by intro _; rfl)) rfl rfl rfl)
          (pss_one (ps_ret (pe_op op_modN (pe_callTy call_int1 rfl T.b_int bt_int (pa_cons (pe_var (i := 2) rfl (.inl rfl)) pa_nil)) (pe_var (i := 1) rfl (.inl rfl)))))))
      pss_nil)
    (pss_cons (ps_asg (pe_op op_modN (pe_callTy call_int1 rfl T.b_int bt_int (pa_cons (pe_op op_add (pe_op op_add (pe_op op_mul (pe_ix ix_seq (pe_var (i := 0) rfl (.inl rfl)) pe_int (fun _ _ => rfl)) pe_int) (pe_op op_mul (pe_var (i := 2) rfl (.inl rfl)) pe_int)) pe_int) pa_nil)) pe_int) (pg_sub (pe_var (i := 0) rfl (.inl rfl)) pe_int set_list (by intro _; rfl)) rfl rfl rfl)
      (pss_cons (ps_asg (pe_op op_add (pe_ix ix_seq (pe_var (i := 0) rfl (.inl rfl)) pe_int (fun _ _ => rfl)) pe_int) (pg_sub (pe_var (i := 0) rfl (.inl rfl)) pe_int set_list (by intro _; rfl)) rfl rfl rfl)
        (pss_one (ps_ret (pe_op op_modN (pe_callTy call_int1 rfl T.b_int bt_int (pa_cons (pe_op op_fdiv (pe_ix ix_seq (pe_var (i := 0) rfl (.inl rfl)) pe_int (fun _ _ => rfl)) pe_int) pa_nil)) (pe_var (i := 1) rfl (.inl rfl)))))))), ?_⟩
  refine ⟨.ref a, rfl, .inl ⟨a, _, 1, .ref c, rfl, rfl, SqL.at h1, rfl, ?_⟩⟩
  refine ⟨by decide, fun p hp => ⟨c, p, ns.map .int, [.int 0], rfl, rfl, ?_, upd_same, ?_, fun p2 hp2 => ?_⟩⟩
  · rw [upd_ne (ne_of_none h2 hp)]; exact h2
  · rw [List.length_map, sizeLine_eq]; simp; omega
  have k1 : But a c H (upd (upd H p (.lst [.int 0])) p2 (.lst (ns.map .int ++ [.int 0]))) := fun b u _ _ e => by
    have e1 : upd H p (.lst [.int 0]) b = some u := by rw [upd_ne (ne_of_none e hp)]; exact e
    rw [upd_ne (ne_of_none e1 hp2)]; exact e1
  have ga : upd (upd H p (.lst [.int 0])) p2 (.lst (ns.map .int ++ [.int 0])) a = some (.lst [.int st, .ref c, .int ix]) := by
    have e1 : upd H p (.lst [.int 0]) a = _ := (upd_ne (ne_of_none h1 hp)).trans h1
    rw [upd_ne (ne_of_none e1 hp2)]; exact e1
  have gc : upd (upd H p (.lst [.int 0])) p2 (.lst (ns.map .int ++ [.int 0])) c = some (.lst (ns.map .int)) := by
    have e1 : upd H p (.lst [.int 0]) c = _ := (upd_ne (ne_of_none h2 hp)).trans h2
    rw [upd_ne (ne_of_none e1 hp2)]; exact e1
  have gp : upd (upd H p (.lst [.int 0])) p2 (.lst (ns.map .int ++ [.int 0])) p2 = some (.lst ((ns ++ [0]).map .int)) := by
    rw [upd_same, List.map_append]; rfl
  generalize upd (upd H p (.lst [.int 0])) p2 (.lst (ns.map .int ++ [.int 0])) = G at k1 ga gc gp
  refine ⟨.ref a, rfl, .inl ⟨a, _, 2, .int ix, rfl, rfl, SqL.at ga, rfl, .inl ⟨ix, rfl, ?_⟩⟩⟩
  refine ⟨.ref a, rfl, .inl ⟨a, _, 1, .ref c, rfl, rfl, SqL.at ga, rfl, ?_⟩⟩
  refine ⟨_, (ns.map V.int).length, rfl, .inl ⟨_, SqL.at gc, rfl⟩, 1, _, rfl, ?_⟩
  have hM : (1 : Int) ≤ (if ((ns.map V.int).length : Int) > 1 then ((ns.map V.int).length : Int) else 1) := by split <;> omega
  have hM2 : (if ((ns.map V.int).length : Int) > 1 then ((ns.map V.int).length : Int) else 1) ≤ ((ns ++ [0]).length : Int) := by
    rw [List.length_append, List.length_map]; simp only [List.length_cons, List.length_nil]; split <;> omega
  generalize (if ((ns.map V.int).length : Int) > 1 then ((ns.map V.int).length : Int) else 1) = M at hM hM2
  refine ⟨ix, M, rfl, rfl, by omega, ?_⟩
  obtain ⟨f1, f2⟩ := fmod_in (i := ix) hM
  obtain ⟨cell, ec, mc⟩ := at_ints (l := ns ++ [0]) f1 (by omega)
  refine .inl ⟨p2, _, _, .int cell, rfl, rfl, SqL.at gp, ec, ?_⟩
  refine ⟨_, rfl, 10, 18, rfl, rfl, ⟨by decide, by decide, by decide⟩, cell, _, rfl, rfl, ?_⟩
  have h18 : ((10 : Int) ^ (18 : Int).toNat) = 1000000000000000000 := by decide
  refine ⟨_, rfl, ?_⟩
  by_cases hb : (10 : Int) ^ (18 : Int).toNat ≤ cell
  · refine Eq.mpr (if_pos (decide_eq_true hb)) ?_
    rw [h18] at hb
    have hz : cell ≠ 0 := by omega
    have mc' : cell ∈ ns := by
      rcases List.mem_append.mp mc with z | z
      · exact z
      · exact absurd (List.mem_singleton.mp z) hz
    have hl : 0 < ns.length := List.length_pos_of_mem mc'
    refine ⟨.ref a, rfl, .inl ⟨a, _, 1, .ref c, rfl, rfl, SqL.at ga, rfl, ?_⟩⟩
    refine ⟨_, rfl, _, rfl, cell, n, rfl, rfl, wide_div (b := 110) (by omega) hn (by decide) (by decide), ?_⟩
    refine ⟨.ref c, rfl, .ref a, rfl, .inl ⟨a, _, 2, .int ix, rfl, rfl, SqL.at ga, rfl, .inl ⟨ix, rfl, ?_⟩⟩⟩
    refine ⟨.ref c, rfl, _, (ns.map V.int).length, rfl, .inl ⟨_, SqL.at gc, rfl⟩, ix, _, rfl, rfl, ?_, ?_⟩
    · rw [List.length_map]; omega
    obtain ⟨g1, g2⟩ := fmod_in (i := ix) (j := ((ns.map V.int).length : Int)) (by rw [List.length_map]; omega)
    obtain ⟨j, ej⟩ := Int.eq_ofNat_of_zero_le g1
    have hj : j < (ns.map V.int).length := by omega
    refine ⟨c, ns.map V.int, _, j, rfl, rfl, gc, by rw [ej]; exact ixN_nat hj, ?_⟩
    refine ⟨_, rfl, .inl ⟨cell, rfl, _, rfl, cell, n, rfl, rfl, by omega, ?_⟩⟩
    obtain ⟨r1, r2⟩ := fmod_in (i := cell) n1
    refine q _ _ r1 r2 (fun b u b1 b2 e => ?_) ⟨st, ix, ns.set j (cell / n), ?_, ?_, by rw [List.length_set]; exact h3⟩
    · rw [upd_ne b2]; exact k1 b u b1 b2 e
    · rw [upd_ne hac]; exact ga
    · rw [upd_same, List.map_set]
  · refine Eq.mpr (if_neg (by rw [decide_eq_false hb]; exact Bool.false_ne_true)) ?_
    refine ⟨.ref a, rfl, .inl ⟨a, _, 0, .int st, rfl, rfl, SqL.at ga, rfl, st, 48271, rfl, rfl, .inr ⟨by decide, by decide⟩, ?_⟩⟩
    refine ⟨_, rfl, cell, 69621, rfl, rfl, .inr ⟨by decide, by decide⟩, _, _, rfl, rfl, _, _, rfl, rfl, .inl ⟨_, rfl, _, _, rfl, rfl, show (2147483647 : Int) ≠ 0 by decide, ?_⟩⟩
    refine ⟨.ref a, rfl, a, _, 0, 0, rfl, rfl, ga, rfl, ?_⟩
    refine ⟨.ref a, rfl, .inl ⟨a, _, 2, .int ix, rfl, rfl, SqL.at upd_same, rfl, ix, 1, rfl, rfl, ?_⟩⟩
    refine ⟨.ref a, rfl, a, _, 2, 2, rfl, rfl, upd_same, rfl, ?_⟩
    refine ⟨.ref a, rfl, .inl ⟨a, _, 0, _, rfl, rfl, SqL.at upd_same, rfl, _, 7, rfl, rfl, ⟨by decide, by decide⟩, .inl ⟨_, rfl, _, rfl, _, n, rfl, rfl, by omega, ?_⟩⟩⟩
    obtain ⟨r1, r2⟩ := fmod_in (i := ((st * 48271 + cell * 69621 + 11).fmod 2147483647) / 7) n1
    refine q _ _ r1 r2 (fun b u b1 b2 e => ?_) ⟨_, _, ns, upd_same, ?_, h3⟩
    · rw [upd_ne b1, upd_ne b1]; exact k1 b u b1 b2 e
    · rw [upd_ne (Ne.symm hac), upd_ne (Ne.symm hac)]; exact gc
theorem sc_mix : FnScope ["_law_script", "_law_seed", "_law_state", "_law_cell"] ["_law_script", "_law_seed"] (defScope (top 19)) := ⟨rfl, rfl, rfl, by decide +kernel, rfl, by decide +kernel, by decide +kernel⟩
theorem ok_mix {f : Addr} {fd : FuncData} {k : Nat} (T : Txt K mg) (F : Fun K "_law_mix" "_law_mix" (top 19) f fd) : FnOk P w K mg base (L2.CX P w) (k + 1) f fd ["_law_script", "_law_seed"] (spMix K) := by
  refine F.okX sc_mix (fun vs H Q E h => by obtain ⟨a, ns, seed, rfl, _⟩ := h; rfl) (fun cdv A outer s H vs Q E hr h => ?_)
  obtain ⟨a, ns, seed, rfl, h1, h2, q⟩ := h
  have nd := sc_mix.nd
  refine ⟨_, pss_cons (ps_set (i := 2) nd rfl (.inl rfl) (pe_var (i := 1) rfl (.inl rfl)))
    (pss_cons (ps_for (passes_of rfl) rfl (pi_list (pe_var (i := 0) rfl (.inl rfl))) (pg_name (i := 3) nd rfl (.inl rfl) (.inl rfl))
      (pss_one (ps_set (i := 2) nd rfl (.inl rfl) (pe_op op_modN (pe_callTy call_int1 rfl T.b_int bt_int (pa_cons (pe_op op_add (pe_op op_add (pe_op op_mul (pe_var (i := 2) rfl (.inl rfl)) pe_int) (pe_op op_modN (pe_callTy call_int1 rfl T.b_int bt_int (pa_cons (pe_var (i := 3) rfl (.inl rfl)) pa_nil)) pe_int)) pe_int) pa_nil)) pe_int))) (by intro _; rfl))
    (pss_one (ps_ret (pe_lst (pa_cons (pe_var (i := 2) rfl (.inl rfl)) (pa_cons (pe_callTy call_list_of rfl T.b_list bt_list (pa_cons (pe_var (i := 0) rfl (.inl rfl)) pa_nil)) (pa_cons pe_int pa_nil))))))), ?_⟩
  refine ⟨.int seed, rfl, .ref a, rfl, a, rfl, ⟨_, h1⟩, ?_⟩
  refine ⟨fun i m σ H' => m = ns.length - i ∧ i ≤ ns.length ∧ H' = H ∧ ∃ (z : Int) (u : Option V), σ = [some (.ref a), some (.int seed), some (.int z), u], ⟨ns.length, by simp, Nat.zero_le _, rfl, seed, none, rfl⟩, ?_⟩
  rintro i m σ' H' ⟨rfl, hi, rfl, z, u, rfl⟩
  by_cases hlt : i < ns.length
  · right
    have hx : (ns.map V.int)[i]? = some (.int ns[i]) := by rw [List.getElem?_map, List.getElem?_eq_getElem hlt]; rfl
    refine ⟨⟨_, _, h1, hx⟩, fun σ' H2 => i + 1 ≤ ns.length ∧ H2 = H' ∧ ∃ (z : Int) (u : Option V), σ' = [some (.ref a), some (.int seed), some (.int z), u], fun σ2 H2 ⟨q1, q2, q3⟩ => ⟨ns.length - (i + 1), by omega, rfl, q1, q2, q3⟩, fun x H2 hy => ?_⟩
    obtain ⟨rfl, hy⟩ := hy
    have e := hy _ h1
    rw [hx] at e
    cases e
    refine ⟨.int z, rfl, z, 48271, rfl, rfl, .inr ⟨by decide, by decide⟩, _, rfl, .inl ⟨_, rfl, _, 2147483629, rfl, rfl, show (2147483629 : Int) ≠ 0 by decide, ?_⟩⟩
    refine ⟨_, _, rfl, rfl, _, _, rfl, rfl, .inl ⟨_, rfl, _, 2147483647, rfl, rfl, show (2147483647 : Int) ≠ 0 by decide, ?_⟩⟩
    exact ⟨hlt, rfl, _, _, rfl⟩
  · left
    refine ⟨⟨_, h1, by rw [List.length_map]; omega⟩, ?_⟩
    refine ⟨.int z, rfl, .ref a, rfl, a, _, rfl, .inl h1, fun c hc => ⟨show 3 ≤ sizeLine by decide, fun p hp => ?_⟩⟩
    have nec : p ≠ c := fun e => by rw [e, upd_same] at hp; cases hp
    have hp0 : H' p = none := by rw [upd_ne nec] at hp; exact hp
    refine q p c _ hp0 hc nec (fun b u e => ?_) ⟨z, 0, ns, upd_same, ?_, h2⟩
    · have b1 := ne_of_none e hc
      have b2 := ne_of_none e hp0
      rw [upd_ne b2, upd_ne b1]; exact e
    · rw [upd_ne (Ne.symm nec), upd_same]
theorem D_law_next (T : Txt K mg) : Def P w K mg base 1 "_law_next" 2 spNext := by
  obtain ⟨f, fd, F, hm⟩ := T.f_law_next
  exact ⟨f, fd, _, ok_next (k := 0) T F, hm, F.kp, F.binds (ps := ["_law_h", "_law_bound"]) fun _ _ _ _ _ _ us hl => match us, hl with | [_, _], _ => rfl, rfl⟩
theorem D_law_mix (T : Txt K mg) : Def P w K mg base 1 "_law_mix" 2 (spMix K) := by
  obtain ⟨f, fd, F, hm⟩ := T.f_law_mix
  exact ⟨f, fd, _, ok_mix (k := 0) T F, hm, F.kp, F.binds (ps := ["_law_script", "_law_seed"]) fun _ _ _ _ _ _ us hl => match us, hl with | [_, _], _ => rfl, rfl⟩
theorem sc_is_integer : FnScope ["value"] ["value"] (defScope (top 9)) := ⟨rfl, rfl, rfl, by decide +kernel, rfl, by decide +kernel, by decide +kernel⟩
theorem ok_is_integer (T : Txt K mg) {f : Addr} {fd : FuncData} (F : Fun K "is_integer" "is_integer" (top 9) f fd) : FnOk P w K mg base (L2.CX P w) 1 f fd ["value"] (spOf mg 1 sp_is_integer) := by
  refine def_ok (k := 0) F sc_is_integer fun cdv A outer s H E a => ⟨w_is_integer, ?_, pure_is_integer⟩
  exact (sss_one (ss_ret (se_and (se_isi (T := "int") (se_v 0) T.b_isinstance T.b_int bt_int rfl) (se_one (se_not (se_isi (T := "bool") (se_v 0) T.b_isinstance T.b_bool bt_bool rfl))))))
theorem D_is_integer (T : Txt K mg) : Def P w K mg base 1 "is_integer" 1 (spOf mg 1 sp_is_integer) := by
  obtain ⟨f, fd, F, hm⟩ := T.f_is_integer
  exact ⟨f, fd, _, ok_is_integer T F, hm, F.kp, F.binds (ps := ["value"]) fun _ _ _ _ _ _ us hl => match us, hl with | [_], _ => rfl, rfl⟩
theorem sc_is_from : FnScope ["value", "low", "high"] ["value", "low", "high"] (defScope (top 10)) := ⟨rfl, rfl, rfl, by decide +kernel, rfl, by decide +kernel, by decide +kernel⟩
theorem ok_is_from (T : Txt K mg) {f : Addr} {fd : FuncData} (F : Fun K "is_from" "is_from" (top 10) f fd) : FnOk P w K mg base (L2.CX P w) 2 f fd ["value", "low", "high"] (spOf mg 3 sp_is_from) := by
  refine def_ok (k := 1) F sc_is_from fun cdv A outer s H E a => ⟨w_is_from, ?_, pure_is_from⟩
  exact (sss_one (ss_ret (se_and (se_call a (D_is_integer T) (by decide) (sa_cons (se_v 0) sa_nil)) (se_one (se_chain o_le o_le (se_v 1) (se_v 0) (se_v 2))))))
theorem D_is_from (T : Txt K mg) : Def P w K mg base 2 "is_from" 3 (spOf mg 3 sp_is_from) := by
  obtain ⟨f, fd, F, hm⟩ := T.f_is_from
  exact ⟨f, fd, _, ok_is_from T F, hm, F.kp, F.binds (ps := ["value", "low", "high"]) fun _ _ _ _ _ _ us hl => match us, hl with | [_, _, _], _ => rfl, rfl⟩
theorem sc_check_heaps : FnScope ["value", "heap"] ["value"] (defScope (top 11)) := ⟨rfl, rfl, rfl, by decide +kernel, rfl, by decide +kernel, by decide +kernel⟩
theorem ok_check_heaps (T : Txt K mg) {f : Addr} {fd : FuncData} (F : Fun K "check_heaps" "check_heaps" (top 11) f fd) : FnOk P w K mg base (L2.CX P w) 3 f fd ["value"] (spOf mg 1 sp_check_heaps) := by
  refine def_ok (k := 2) F sc_check_heaps fun cdv A outer s H E a => ⟨w_check_heaps, ?_, pure_check_heaps⟩
  exact (sss_cons (ss_if (st_w (sw_or (st_not (st_b (se_isi (T := "tuple") (se_v 0) T.b_isinstance T.b_tuple bt_tuple rfl))) (sw_or1 (st_not (st_chain o_le o_le (se_gi T.c_LEAST_HEAPS.choose_spec) (se_fb f_len T.b_len bb_len (sa_cons (se_v 0) sa_nil)) (se_gi T.c_MOST_HEAPS.choose_spec)))))) (sss_one (ss_raise a T.r_BadHeaps)) sss_nil)
    (sss_cons (ss_for a (si_t (se_v 0)) (sg_n 1 a.nd) (sss_one (ss_if (st_not (st_b (se_call a (D_is_from T) (by decide) (sa_cons (se_v 1) (sa_cons se_int (sa_cons (se_gi T.c_MOST_IN_HEAP.choose_spec) sa_nil)))))) (sss_one (ss_raise a T.r_BadHeaps)) sss_nil)))
    (sss_one (ss_if (st_cmp (o_eq a) (se_fb (f_max a) T.b_max bb_max (sa_cons (se_v 0) sa_nil)) se_int) (sss_one (ss_raise a T.r_BadHeaps)) sss_nil))))
theorem D_check_heaps (T : Txt K mg) : Def P w K mg base 3 "check_heaps" 1 (spOf mg 1 sp_check_heaps) := by
  obtain ⟨f, fd, F, hm⟩ := T.f_check_heaps
  exact ⟨f, fd, _, ok_check_heaps T F, hm, F.kp, F.binds (ps := ["value"]) fun _ _ _ _ _ _ us hl => match us, hl with | [_], _ => rfl, rfl⟩
theorem sc_Desk___init__ : FnScope ["self", "heaps"] ["self", "heaps"] (defScope (inC (top 17) 0)) := ⟨rfl, rfl, rfl, by decide +kernel, rfl, by decide +kernel, by decide +kernel⟩
theorem ok_Desk___init__ (T : Txt K mg) {f : Addr} {fd : FuncData} (F : Fun K "__init__" "Desk.__init__" (inC (top 17) 0) f fd) : FnOk P w K mg base (L2.CX P w) 4 f fd ["self", "heaps"] (spOfO (cD T) mg 1 sp_Desk___init__) := by
  refine def_okO (k := 3) F sc_Desk___init__ (by decide) (by decide) fun cdv A outer s H E a => ⟨(w_Desk___init__ (cD T)), ?_, (pure_Desk___init__ (cD T))⟩
  exact (sss_cons (ss_expr (se_call a (D_check_heaps T) (by decide) (sa_cons (se_v 1) sa_nil)))
    (sss_cons (ss_fldO 0 (oD_cls T) (oD_past T) (se_tup (sa_cons (se_v 1) sa_nil)))
    (sss_one (ss_fldO 0 (oD_cls T) (oD_done T) (se_tup sa_nil)))))
theorem CD_Desk___init__ (T : Txt K mg) : CDef P w K mg base 4 (cD T) "Desk" 2 (spOfO (cD T) mg 1 sp_Desk___init__) := by
  obtain ⟨f, fd, hM, F⟩ := oD_Desk___init__ T
  exact ⟨f, fd, _, ok_Desk___init__ T F, oD_mg T, hM, F.binds (ps := ["self", "heaps"]) fun _ _ _ _ _ _ us hl => match us, hl with | [_, _], _ => rfl, rfl⟩
theorem sc_Desk_copy : FnScope ["self", "other"] ["self"] (defScope (inC (top 17) 6)) := ⟨rfl, rfl, rfl, by decide +kernel, rfl, by decide +kernel, by decide +kernel⟩
theorem ok_Desk_copy (T : Txt K mg) {f : Addr} {fd : FuncData} (F : Fun K "copy" "Desk.copy" (inC (top 17) 6) f fd) : FnOk P w K mg base (L2.CX P w) 6 f fd ["self"] (spOfC (cD T) sp_Desk_copy) := by
  refine def_okC (k := 5) 1 F sc_Desk_copy (by decide) fun cdv A outer s H E a => ⟨(w_Desk_copy (cD T)), ?_, (pure_Desk_copy (cD T))⟩
  exact (sse_cons (ss_newOb 1 a (sb_make a (CD_Desk___init__ T) (by decide) (sa_cons (se_ix (se_fldO 0 (oD_cls T) (oD_past T)) se_int) sa_nil)))
    (sse_cons (ss_fldO 1 (oD_cls T) (oD_past T) (se_fldO 0 (oD_cls T) (oD_past T)))
    (sse_cons (ss_fldO 1 (oD_cls T) (oD_done T) (se_fldO 0 (oD_cls T) (oD_done T)))
    (sse_one (ps_ret (pe_var (i := 1) rfl (by first | exact Or.inl rfl | exact Or.inr (Or.inl rfl) | exact Or.inr (Or.inr rfl))))))))
theorem M_Desk_copy (T : Txt K mg) : MDef P w K mg base 6 (cD T) "copy" 1 (spOfC (cD T) sp_Desk_copy) := by
  obtain ⟨f, fd, hM, F⟩ := oD_Desk_copy T
  exact ⟨f, fd, _, ok_Desk_copy T F, hM, F.binds (ps := ["self"]) fun _ _ _ _ _ _ us hl => match us, hl with | [_], _ => rfl, rfl⟩
theorem sc_Desk_undo : FnScope ["self"] ["self"] (defScope (inC (top 17) 5)) := ⟨rfl, rfl, rfl, by decide +kernel, rfl, by decide +kernel, by decide +kernel⟩
theorem ok_Desk_undo (T : Txt K mg) {f : Addr} {fd : FuncData} (F : Fun K "undo" "Desk.undo" (inC (top 17) 5) f fd) : FnOk P w K mg base (L2.CX P w) 1 f fd ["self"] (spOfO (cD T) mg 0 sp_Desk_undo) := by
  refine def_okO (k := 0) F sc_Desk_undo (by decide) (by decide) fun cdv A outer s H E a => ⟨(w_Desk_undo (cD T)), ?_, (pure_Desk_undo (cD T))⟩
  exact (sss_cons (ss_if (st_not (st_tru (se_fldO 0 (oD_cls T) (oD_done T)))) (sss_one (ss_ret se_bl)) sss_nil)
    (sss_cons (ss_fldO 0 (oD_cls T) (oD_past T) (se_slt (se_fldO 0 (oD_cls T) (oD_past T)) sp_none (sp_some (se_neg se_int))))
    (sss_cons (ss_fldO 0 (oD_cls T) (oD_done T) (se_slt (se_fldO 0 (oD_cls T) (oD_done T)) sp_none (sp_some (se_neg se_int))))
    (sss_one (ss_ret se_bl)))))
theorem M_Desk_undo (T : Txt K mg) : MDef P w K mg base 1 (cD T) "undo" 1 (spOfO (cD T) mg 0 sp_Desk_undo) := by
  obtain ⟨f, fd, hM, F⟩ := oD_Desk_undo T
  exact ⟨f, fd, _, ok_Desk_undo T F, hM, F.binds (ps := ["self"]) fun _ _ _ _ _ _ us hl => match us, hl with | [_], _ => rfl, rfl⟩
theorem sc_law_behind : FnScope ["_law_heaps_here", "_law_step", "_law_row"] ["_law_heaps_here", "_law_step"] (defScope (top 23)) := ⟨rfl, rfl, rfl, by decide +kernel, rfl, by decide +kernel, by decide +kernel⟩
theorem ok_law_behind (T : Txt K mg) {f : Addr} {fd : FuncData} (F : Fun K "_law_behind" "_law_behind" (top 23) f fd) : FnOk P w K mg base (L2.CX P w) 1 f fd ["_law_heaps_here", "_law_step"] (spOf mg 2 sp_law_behind) := by
  refine def_ok (k := 0) F sc_law_behind fun cdv A outer s H E a => ⟨w_law_behind, ?_, pure_law_behind⟩
  exact (sss_cons (ss_own 2 a (so_ft fo_list T.b_list bt_list (sa_cons (se_v 0) sa_nil)))
    (sss_cons (ss_setI 2 (se_op o_sub (se_ix (se_v 2) (se_ix (se_v 1) se_int)) (se_ix (se_v 0) (se_ix (se_v 1) se_int))) (se_ix (se_v 1) se_int))
    (sss_cons (ss_setI 2 (se_op o_add (se_ix (se_v 2) (se_ix (se_v 1) se_int)) (se_ix (se_v 0) (se_ix (se_v 1) se_int))) (se_ix (se_v 1) se_int))
    (sss_one (ss_ret (se_ft f_tuple T.b_tuple bt_tuple (sa_cons (se_v 2) sa_nil)))))))
theorem D_law_behind (T : Txt K mg) : Def P w K mg base 1 "_law_behind" 2 (spOf mg 2 sp_law_behind) := by
  obtain ⟨f, fd, F, hm⟩ := T.f_law_behind
  exact ⟨f, fd, _, ok_law_behind T F, hm, F.kp, F.binds (ps := ["_law_heaps_here", "_law_step"]) fun _ _ _ _ _ _ us hl => match us, hl with | [_, _], _ => rfl, rfl⟩
theorem sc_law_can : FnScope ["_law_heaps_here", "_law_step"] ["_law_heaps_here", "_law_step"] (defScope (top 22)) := ⟨rfl, rfl, rfl, by decide +kernel, rfl, by decide +kernel, by decide +kernel⟩
theorem ok_law_can (T : Txt K mg) {f : Addr} {fd : FuncData} (F : Fun K "_law_can" "_law_can" (top 22) f fd) : FnOk P w K mg base (L2.CX P w) 1 f fd ["_law_heaps_here", "_law_step"] (spOf mg 2 sp_law_can) := by
  refine def_ok (k := 0) F sc_law_can fun cdv A outer s H E a => ⟨w_law_can, ?_, pure_law_can⟩
  exact (sss_one (ss_ret (se_chain o_lt o_le se_int (se_ix (se_v 0) (se_ix (se_v 1) se_int)) (se_ix (se_v 0) (se_ix (se_v 1) se_int)))))
theorem D_law_can (T : Txt K mg) : Def P w K mg base 1 "_law_can" 2 (spOf mg 2 sp_law_can) := by
  obtain ⟨f, fd, F, hm⟩ := T.f_law_can
  exact ⟨f, fd, _, ok_law_can T F, hm, F.kp, F.binds (ps := ["_law_heaps_here", "_law_step"]) fun _ _ _ _ _ _ us hl => match us, hl with | [_, _], _ => rfl, rfl⟩
theorem sc_law_heaps : FnScope ["_law_h", "_law_least", "_law_most", "_law_size", "_law_far", "_law_part", "_law_found", "_law_k"] ["_law_h", "_law_least", "_law_most"] (defScope (top 21)) := ⟨rfl, rfl, rfl, by decide +kernel, rfl, by decide +kernel, by decide +kernel⟩
theorem ok_law_heaps (T : Txt K mg) {f : Addr} {fd : FuncData} (F : Fun K "_law_heaps" "_law_heaps" (top 21) f fd) : FnOk P w K mg base (L2.CX P w) 2 f fd ["_law_h", "_law_least", "_law_most"] (spOfR mg 2 sp_law_heaps) := by
  refine def_okR (k := 1) F sc_law_heaps (by decide) (by decide) fun cdv A outer s H E a => ⟨w_law_heaps, ?_, pure_law_heaps⟩
  exact (sss_cons (ss_set 3 a (se_op o_add (se_v 1) (se_draw 0 a (D_law_next T) (by decide) (se_op o_add (se_op o_sub (se_v 2) (se_v 1)) se_int))))
    (sss_cons (ss_set 4 a (se_ix (se_o (so_lst (sa_cons se_int (sa_cons se_int (sa_cons se_int (sa_cons (se_op o_pow se_int se_int) (sa_cons (se_op o_pow se_int se_int) sa_nil))))))) (se_draw 0 a (D_law_next T) (by decide) se_int)))
    (sss_cons (ss_set 5 a (se_ix (se_o (so_lst (sa_cons se_int (sa_cons se_int (sa_cons se_int (sa_cons se_int (sa_cons se_int sa_nil))))))) (se_draw 0 a (D_law_next T) (by decide) se_int)))
    (sss_cons (ss_setLcO 6 (own := [("_law_k", 7)]) a (si_r1 T.b_range (sa_cons (se_v 3) sa_nil)) (by kernel_rfl) (fun _ _ _ _ _ => (sg_n 7 a.nd)) (fun _ _ _ _ _ a1 => sts_nil) (fun _ _ _ _ _ a1 => (se_op o_mul (se_v 5) (se_draw 0 a1 (D_law_next T) (by decide) (se_v 4)))) (by decide))
    (sss_cons (ss_if (st_cmp (o_eq a) (se_fb (f_max a) T.b_max bb_max (sa_cons (se_v 6) sa_nil)) se_int) (sss_one (ss_setI 6 (se_v 5) (se_draw 0 a (D_law_next T) (by decide) (se_v 3)))) sss_nil)
    (sss_one (ss_ret (se_ft f_tuple T.b_tuple bt_tuple (sa_cons (se_v 6) sa_nil)))))))))
theorem D_law_heaps (T : Txt K mg) : Def P w K mg base 2 "_law_heaps" 3 (spOfR mg 2 sp_law_heaps) := by
  obtain ⟨f, fd, F, hm⟩ := T.f_law_heaps
  exact ⟨f, fd, _, ok_law_heaps T F, hm, F.kp, F.binds (ps := ["_law_h", "_law_least", "_law_most"]) fun _ _ _ _ _ _ us hl => match us, hl with | [_, _, _], _ => rfl, rfl⟩
theorem sc_behind : FnScope ["heaps", "step", "one", "other", "found"] ["heaps", "step"] (defScope (top 14)) := ⟨rfl, rfl, rfl, by decide +kernel, rfl, by decide +kernel, by decide +kernel⟩
theorem ok_behind (T : Txt K mg) {f : Addr} {fd : FuncData} (F : Fun K "behind" "behind" (top 14) f fd) : FnOk P w K mg base (L2.CX P w) 1 f fd ["heaps", "step"] (spOf mg 2 sp_behind) := by
  refine def_ok (k := 0) F sc_behind fun cdv A outer s H E a => ⟨w_behind, ?_, pure_behind⟩
  exact (sss_cons (ss_asg (se_v 1) (sg_t rfl (sgs_cons (sg_n 2 a.nd) (sgs_cons (sg_n 3 a.nd) sgs_nil))))
    (sss_cons (ss_own 4 a (so_ft fo_list T.b_list bt_list (sa_cons (se_v 0) sa_nil)))
    (sss_cons (ss_augI 4 o_isub (se_v 2) (se_ix (se_v 0) (se_v 3)))
    (sss_cons (ss_augI 4 o_iadd (se_v 3) (se_ix (se_v 0) (se_v 3)))
    (sss_one (ss_ret (se_ft f_tuple T.b_tuple bt_tuple (sa_cons (se_v 4) sa_nil))))))))
theorem D_behind (T : Txt K mg) : Def P w K mg base 1 "behind" 2 (spOf mg 2 sp_behind) := by
  obtain ⟨f, fd, F, hm⟩ := T.f_behind
  exact ⟨f, fd, _, ok_behind T F, hm, F.kp, F.binds (ps := ["heaps", "step"]) fun _ _ _ _ _ _ us hl => match us, hl with | [_, _], _ => rfl, rfl⟩
theorem sc_can_be_made : FnScope ["heaps", "step", "one", "other"] ["heaps", "step"] (defScope (top 13)) := ⟨rfl, rfl, rfl, by decide +kernel, rfl, by decide +kernel, by decide +kernel⟩
theorem ok_can_be_made (T : Txt K mg) {f : Addr} {fd : FuncData} (F : Fun K "can_be_made" "can_be_made" (top 13) f fd) : FnOk P w K mg base (L2.CX P w) 1 f fd ["heaps", "step"] (spOf mg 2 sp_can_be_made) := by
  refine def_ok (k := 0) F sc_can_be_made fun cdv A outer s H E a => ⟨w_can_be_made, ?_, pure_can_be_made⟩
  exact (sss_cons (ss_asg (se_v 1) (sg_t rfl (sgs_cons (sg_n 2 a.nd) (sgs_cons (sg_n 3 a.nd) sgs_nil))))
    (sss_one (ss_ret (se_chain o_lt o_le se_int (se_ix (se_v 0) (se_v 3)) (se_ix (se_v 0) (se_v 2))))))
theorem D_can_be_made (T : Txt K mg) : Def P w K mg base 1 "can_be_made" 2 (spOf mg 2 sp_can_be_made) := by
  obtain ⟨f, fd, F, hm⟩ := T.f_can_be_made
  exact ⟨f, fd, _, ok_can_be_made T F, hm, F.kp, F.binds (ps := ["heaps", "step"]) fun _ _ _ _ _ _ us hl => match us, hl with | [_, _], _ => rfl, rfl⟩
theorem sc_is_step : FnScope ["value", "count"] ["value", "count"] (defScope (top 12)) := ⟨rfl, rfl, rfl, by decide +kernel, rfl, by decide +kernel, by decide +kernel⟩
theorem ok_is_step (T : Txt K mg) {f : Addr} {fd : FuncData} (F : Fun K "is_step" "is_step" (top 12) f fd) : FnOk P w K mg base (L2.CX P w) 3 f fd ["value", "count"] (spOf mg 2 sp_is_step) := by
  refine def_ok (k := 2) F sc_is_step fun cdv A outer s H E a => ⟨w_is_step, ?_, pure_is_step⟩
  exact (sss_cons (ss_if (st_w (sw_or (st_not (st_b (se_isi (T := "tuple") (se_v 0) T.b_isinstance T.b_tuple bt_tuple rfl))) (sw_or1 (st_cmp (o_ne a) (se_fb f_len T.b_len bb_len (sa_cons (se_v 0) sa_nil)) se_int)))) (sss_one (ss_ret se_bl)) sss_nil)
    (sss_cons (ss_if (st_w (sw_or (st_not (st_b (se_call a (D_is_from T) (by decide) (sa_cons (se_ix (se_v 0) se_int) (sa_cons se_int (sa_cons (se_op o_sub (se_v 1) se_int) sa_nil)))))) (sw_or1 (st_not (st_b (se_call a (D_is_from T) (by decide) (sa_cons (se_ix (se_v 0) se_int) (sa_cons se_int (sa_cons (se_op o_sub (se_v 1) se_int) sa_nil))))))))) (sss_one (ss_ret se_bl)) sss_nil)
    (sss_one (ss_ret (se_cmp (o_ne a) (se_ix (se_v 0) se_int) (se_ix (se_v 0) se_int))))))
theorem D_is_step (T : Txt K mg) : Def P w K mg base 3 "is_step" 2 (spOf mg 2 sp_is_step) := by
  obtain ⟨f, fd, F, hm⟩ := T.f_is_step
  exact ⟨f, fd, _, ok_is_step T F, hm, F.kp, F.binds (ps := ["value", "count"]) fun _ _ _ _ _ _ us hl => match us, hl with | [_, _], _ => rfl, rfl⟩
theorem sc_Desk_move : FnScope ["self", "one", "other", "here", "step"] ["self", "one", "other"] (defScope (inC (top 17) 3)) := ⟨rfl, rfl, rfl, by decide +kernel, rfl, by decide +kernel, by decide +kernel⟩
theorem ok_Desk_move (T : Txt K mg) {f : Addr} {fd : FuncData} (F : Fun K "move" "Desk.move" (inC (top 17) 3) f fd) : FnOk P w K mg base (L2.CX P w) 4 f fd ["self", "one", "other"] (spOfO (cD T) mg 2 sp_Desk_move) := by
  refine def_okO (k := 3) F sc_Desk_move (by decide) (by decide) fun cdv A outer s H E a => ⟨(w_Desk_move (cD T)), ?_, (pure_Desk_move (cD T))⟩
  exact (sss_cons (ss_set 3 a (se_ix (se_fldO 0 (oD_cls T) (oD_past T)) (se_neg se_int)))
    (sss_cons (ss_set 4 a (se_tup (sa_cons (se_v 1) (sa_cons (se_v 2) sa_nil))))
    (sss_cons (ss_if (st_w (sw_or (st_not (st_b (se_call a (D_is_step T) (by decide) (sa_cons (se_v 4) (sa_cons (se_fb f_len T.b_len bb_len (sa_cons (se_v 3) sa_nil)) sa_nil))))) (sw_or1 (st_not (st_b (se_call a (D_can_be_made T) (by decide) (sa_cons (se_v 3) (sa_cons (se_v 4) sa_nil)))))))) (sss_one (ss_raise a T.r_BadStep)) sss_nil)
    (sss_cons (ss_if (st_cmp (o_eq a) (se_fb f_len T.b_len bb_len (sa_cons (se_fldO 0 (oD_cls T) (oD_done T)) sa_nil)) (se_gi T.c_MOST_MADE.choose_spec)) (sss_one (ss_raise a T.r_Full)) sss_nil)
    (sss_cons (ss_fldO 0 (oD_cls T) (oD_past T) (se_op o_add (se_fldO 0 (oD_cls T) (oD_past T)) (se_tup (sa_cons (se_call a (D_behind T) (by decide) (sa_cons (se_v 3) (sa_cons (se_v 4) sa_nil))) sa_nil))))
    (sss_cons (ss_fldO 0 (oD_cls T) (oD_done T) (se_op o_add (se_fldO 0 (oD_cls T) (oD_done T)) (se_tup (sa_cons (se_v 4) sa_nil))))
    (sss_one (ss_ret (se_ix (se_v 3) (se_v 2))))))))))
theorem M_Desk_move (T : Txt K mg) : MDef P w K mg base 4 (cD T) "move" 3 (spOfO (cD T) mg 2 sp_Desk_move) := by
  obtain ⟨f, fd, hM, F⟩ := oD_Desk_move T
  exact ⟨f, fd, _, ok_Desk_move T F, hM, F.binds (ps := ["self", "one", "other"]) fun _ _ _ _ _ _ us hl => match us, hl with | [_, _, _], _ => rfl, rfl⟩
theorem sc_law_moved : FnScope ["_law_desk", "_law_one", "_law_other"] ["_law_desk", "_law_one", "_law_other"] (defScope (top 25)) := ⟨rfl, rfl, rfl, by decide +kernel, rfl, by decide +kernel, by decide +kernel⟩
theorem ok_law_moved (T : Txt K mg) {f : Addr} {fd : FuncData} (F : Fun K "_law_moved" "_law_moved" (top 25) f fd) : FnOk P w K mg base (L2.CX P w) 5 f fd ["_law_desk", "_law_one", "_law_other"] (spOfO (cD T) mg 2 sp_law_moved) := by
  refine def_okO (k := 4) F sc_law_moved (by decide) (by decide) fun cdv A outer s H E a => ⟨(w_law_moved (cD T)), ?_, (pure_law_moved (cD T))⟩
  exact (sss_one (ss_try a T.x_BadStep.choose_spec.1 T.x_BadStep.choose_spec.2.1 (fun _ _ _ a1 => (sss_one (ss_ret (se_meth 0 a1 (oD_cls T) (M_Desk_move T) (by decide) (sa_cons (se_v 1) (sa_cons (se_v 2) sa_nil)))))) (fun _ _ _ => (sss_one (ss_ret se_non)))))
theorem D_law_moved (T : Txt K mg) : Def P w K mg base 5 "_law_moved" 3 (spOfO (cD T) mg 2 sp_law_moved) := by
  obtain ⟨f, fd, F, hm⟩ := T.f_law_moved
  exact ⟨f, fd, _, ok_law_moved T F, hm, F.kp, F.binds (ps := ["_law_desk", "_law_one", "_law_other"]) fun _ _ _ _ _ _ us hl => match us, hl with | [_, _, _], _ => rfl, rfl⟩
theorem sc_law_pairs : FnScope ["_law_size", "_law_found", "_law_one", "_law_other"] ["_law_size"] (defScope (top 24)) := ⟨rfl, rfl, rfl, by decide +kernel, rfl, by decide +kernel, by decide +kernel⟩
theorem ok_law_pairs (T : Txt K mg) {f : Addr} {fd : FuncData} (F : Fun K "_law_pairs" "_law_pairs" (top 24) f fd) : FnOk P w K mg base (L2.CX P w) 1 f fd ["_law_size"] (spOf mg 1 sp_law_pairs) := by
  refine def_ok (k := 0) F sc_law_pairs fun cdv A outer s H E a => ⟨w_law_pairs, ?_, pure_law_pairs⟩
  exact (sss_cons (ss_set 1 a (se_o (so_lst sa_nil)))
    (sss_cons (ss_for a (si_r1 T.b_range (sa_cons (se_v 0) sa_nil)) (sg_n 2 a.nd) (sss_one (ss_set 1 a (se_op o_add (se_v 1) (se_o (so_lc (own := [("_law_other", 3)]) a (si_r1 T.b_range (sa_cons (se_v 0) sa_nil)) (by kernel_rfl) (fun _ _ _ _ _ => (sg_n 3 a.nd)) (fun _ _ _ _ _ a1 => (sts_one (st_cmp (o_ne a1) (se_v 3) (se_v 2)))) (fun _ _ _ _ _ a1 => (se_tup (sa_cons (se_v 2) (sa_cons (se_v 3) sa_nil)))) (by decide)))))))
    (sss_one (ss_ret (se_v 1)))))
theorem D_law_pairs (T : Txt K mg) : Def P w K mg base 1 "_law_pairs" 1 (spOf mg 1 sp_law_pairs) := by
  obtain ⟨f, fd, F, hm⟩ := T.f_law_pairs
  exact ⟨f, fd, _, ok_law_pairs T F, hm, F.kp, F.binds (ps := ["_law_size"]) fun _ _ _ _ _ _ us hl => match us, hl with | [_], _ => rfl, rfl⟩
theorem sc_Desk___len__ : FnScope ["self"] ["self"] (defScope (inC (top 17) 7)) := ⟨rfl, rfl, rfl, by decide +kernel, rfl, by decide +kernel, by decide +kernel⟩
theorem ok_Desk___len__ (T : Txt K mg) {f : Addr} {fd : FuncData} (F : Fun K "__len__" "Desk.__len__" (inC (top 17) 7) f fd) : FnOk P w K mg base (L2.CX P w) 1 f fd ["self"] (spOfO (cD T) mg 0 sp_Desk___len__) := by
  refine def_okO (k := 0) F sc_Desk___len__ (by decide) (by decide) fun cdv A outer s H E a => ⟨(w_Desk___len__ (cD T)), ?_, (pure_Desk___len__ (cD T))⟩
  exact (sss_one (ss_ret (se_fb f_len T.b_len bb_len (sa_cons (se_fldO 0 (oD_cls T) (oD_done T)) sa_nil))))
theorem M_Desk___len__ (T : Txt K mg) : MDef P w K mg base 1 (cD T) "__len__" 1 (spOfO (cD T) mg 0 sp_Desk___len__) := by
  obtain ⟨f, fd, hM, F⟩ := oD_Desk___len__ T
  exact ⟨f, fd, _, ok_Desk___len__ T F, hM, F.binds (ps := ["self"]) fun _ _ _ _ _ _ us hl => match us, hl with | [_], _ => rfl, rfl⟩
theorem sc_Desk_empties : FnScope ["self", "heap"] ["self"] (defScope (inC (top 17) 4)) := ⟨rfl, rfl, rfl, by decide +kernel, rfl, by decide +kernel, by decide +kernel⟩
theorem ok_Desk_empties (T : Txt K mg) {f : Addr} {fd : FuncData} (F : Fun K "empties" "Desk.empties" (inC (top 17) 4) f fd) : FnOk P w K mg base (L2.CX P w) 1 f fd ["self"] (spOfO (cD T) mg 0 sp_Desk_empties) := by
  refine def_okO (k := 0) F sc_Desk_empties (by decide) (by decide) fun cdv A outer s H E a => ⟨(w_Desk_empties (cD T)), ?_, (pure_Desk_empties (cD T))⟩
  exact (sss_one (ss_ret (se_fb f_len T.b_len bb_len (sa_cons (se_o (so_lc (own := [("heap", 1)]) a (si_t (se_ix (se_fldO 0 (oD_cls T) (oD_past T)) (se_neg se_int))) (by kernel_rfl) (fun _ _ _ _ _ => (sg_n 1 a.nd)) (fun _ _ _ _ _ a1 => (sts_one (st_cmp (o_eq a1) (se_v 1) se_int))) (fun _ _ _ _ _ a1 => (se_v 1)) (by decide))) sa_nil))))
theorem M_Desk_empties (T : Txt K mg) : MDef P w K mg base 1 (cD T) "empties" 1 (spOfO (cD T) mg 0 sp_Desk_empties) := by
  obtain ⟨f, fd, hM, F⟩ := oD_Desk_empties T
  exact ⟨f, fd, _, ok_Desk_empties T F, hM, F.binds (ps := ["self"]) fun _ _ _ _ _ _ us hl => match us, hl with | [_], _ => rfl, rfl⟩
theorem sc_Desk_heaps : FnScope ["self"] ["self"] (defScope (inC (top 17) 1)) := ⟨rfl, rfl, rfl, by decide +kernel, rfl, by decide +kernel, by decide +kernel⟩
theorem ok_Desk_heaps (T : Txt K mg) {f : Addr} {fd : FuncData} (F : Fun K "heaps" "Desk.heaps" (inC (top 17) 1) f fd) : FnOk P w K mg base (L2.CX P w) 1 f fd ["self"] (spOfO (cD T) mg 0 sp_Desk_heaps) := by
  refine def_okO (k := 0) F sc_Desk_heaps (by decide) (by decide) fun cdv A outer s H E a => ⟨(w_Desk_heaps (cD T)), ?_, (pure_Desk_heaps (cD T))⟩
  exact (sss_one (ss_ret (se_ix (se_fldO 0 (oD_cls T) (oD_past T)) (se_neg se_int))))
theorem PD_Desk_heaps (T : Txt K mg) : PDef P w K mg base 1 (cD T) "heaps" (spOfO (cD T) mg 0 sp_Desk_heaps) := by
  obtain ⟨p, f, fd, hM, F⟩ := oD_Desk_heaps T
  exact ⟨p, f, fd, _, ok_Desk_heaps T F, hM, F.binds (ps := ["self"]) fun _ _ _ _ _ _ us hl => match us, hl with | [_], _ => rfl⟩
theorem sc_Desk_plan : FnScope ["self"] ["self"] (defScope (inC (top 17) 2)) := ⟨rfl, rfl, rfl, by decide +kernel, rfl, by decide +kernel, by decide +kernel⟩
theorem ok_Desk_plan (T : Txt K mg) {f : Addr} {fd : FuncData} (F : Fun K "plan" "Desk.plan" (inC (top 17) 2) f fd) : FnOk P w K mg base (L2.CX P w) 1 f fd ["self"] (spOfO (cD T) mg 0 sp_Desk_plan) := by
  refine def_okO (k := 0) F sc_Desk_plan (by decide) (by decide) fun cdv A outer s H E a => ⟨(w_Desk_plan (cD T)), ?_, (pure_Desk_plan (cD T))⟩
  exact (sss_one (ss_ret (se_fldO 0 (oD_cls T) (oD_done T))))
theorem PD_Desk_plan (T : Txt K mg) : PDef P w K mg base 1 (cD T) "plan" (spOfO (cD T) mg 0 sp_Desk_plan) := by
  obtain ⟨p, f, fd, hM, F⟩ := oD_Desk_plan T
  exact ⟨p, f, fd, _, ok_Desk_plan T F, hM, F.binds (ps := ["self"]) fun _ _ _ _ _ _ us hl => match us, hl with | [_], _ => rfl⟩
theorem sc_law_stands : FnScope ["_law_desk", "_law_rows", "_law_heaps_here", "_law_plan", "_law_x"] ["_law_desk", "_law_rows"] (defScope (top 26)) := ⟨rfl, rfl, rfl, by decide +kernel, rfl, by decide +kernel, by decide +kernel⟩
theorem ok_law_stands (T : Txt K mg) {f : Addr} {fd : FuncData} (F : Fun K "_law_stands" "_law_stands" (top 26) f fd) : FnOk P w K mg base (L2.CX P w) 3 f fd ["_law_desk", "_law_rows"] (spOfO (cD T) mg 1 sp_law_stands) := by
  refine def_okO (k := 2) F sc_law_stands (by decide) (by decide) fun cdv A outer s H E a => ⟨(w_law_stands (cD T)), ?_, (pure_law_stands (cD T))⟩
  exact (sss_cons (ss_asg (se_ix (se_v 1) (se_neg se_int)) (sg_t rfl (sgs_cons (sg_n 2 a.nd) (sgs_cons (sg_n 3 a.nd) sgs_nil))))
    (sss_cons (ss_if (st_w (sw_or (st_cmp (o_ne a) (se_prop 0 a (oD_cls T) (PD_Desk_heaps T) (by decide)) (se_v 2)) (sw_or (st_cmp (o_ne a) (se_prop 0 a (oD_cls T) (PD_Desk_plan T) (by decide)) (se_v 3)) (sw_or1 (st_cmp (o_ne a) (se_lenO 0 a (M_Desk___len__ T) (by decide) T.b_len bb_len) (se_fb f_len T.b_len bb_len (sa_cons (se_v 3) sa_nil))))))) (sss_one (ss_ret se_bl)) sss_nil)
    (sss_one (ss_ret (se_cmp (o_eq a) (se_meth0 0 a (oD_cls T) (M_Desk_empties T) (by decide)) (se_fb f_len T.b_len bb_len (sa_cons (se_o (so_lc (own := [("_law_x", 4)]) a (si_t (se_v 2)) (by kernel_rfl) (fun _ _ _ _ _ => (sg_n 4 a.nd)) (fun _ _ _ _ _ a1 => (sts_one (st_cmp (o_eq a1) (se_v 4) se_int))) (fun _ _ _ _ _ a1 => (se_v 4)) (by decide))) sa_nil)))))))
theorem D_law_stands (T : Txt K mg) : Def P w K mg base 3 "_law_stands" 2 (spOfO (cD T) mg 1 sp_law_stands) := by
  obtain ⟨f, fd, F, hm⟩ := T.f_law_stands
  exact ⟨f, fd, _, ok_law_stands T F, hm, F.kp, F.binds (ps := ["_law_desk", "_law_rows"]) fun _ _ _ _ _ _ us hl => match us, hl with | [_, _], _ => rfl, rfl⟩
theorem sc_law : FnScope ["_law_script", "_law_h", "_law_heaps_here", "_law_size", "_law_desk", "_law_rows", "_law_kept", "_law_olds", "_law_turn", "_law_kind", "_law_here", "_law_plan", "_law_bad", "_law_step", "_law_fine", "_law_one", "_law_told"] ["_law_script"] (defScope (top 27)) := ⟨rfl, rfl, rfl, by decide +kernel, rfl, by decide +kernel, by decide +kernel⟩
theorem ok_law (T : Txt K mg) {f : Addr} {fd : FuncData} (F : Fun K "law" "law" (top 27) f fd) : FnOk P w K mg base (L2.CX P w) 7 f fd ["_law_script"] (spLaw K) := by
  refine law_ok (k := 6) (i := 1) (seed := 6) F sc_law (by decide) fun cdv A outer s H E a => ⟨_, _, _, (w_law (cD T)), rfl, ps_mix 1 a (D_law_mix T) (by decide), ?_, (pure_law (cD T))⟩
  exact (sss_cons (ss_set 2 a (se_callR 1 a (D_law_heaps T) (by decide) (sa_cons se_int (sa_cons se_int sa_nil))))
    (sss_cons (ss_set 3 a (se_fb f_len T.b_len bb_len (sa_cons (se_v 2) sa_nil)))
    (sss_cons (ss_newObL 4 5 a (sb_make a (CD_Desk___init__ T) (by decide) (sa_cons (se_v 2) sa_nil)) (so_lst (sa_cons (se_tup (sa_cons (se_v 2) (sa_cons (se_tup sa_nil) sa_nil))) sa_nil)))
    (sss_cons (ss_newObL 6 7 a (sb_meth 4 a (oD_cls T) (M_Desk_copy T) (by decide)) (so_ft fo_list T.b_list bt_list (sa_cons (se_v 5) sa_nil)))
    (sss_cons (ss_for a (si_r1 T.b_range (sa_cons (se_draw 1 a (D_law_next T) (by decide) se_int) sa_nil)) (sg_n 8 a.nd) (sss_cons (ss_set 9 a (se_draw 1 a (D_law_next T) (by decide) se_int))
    (sss_cons (ss_asg (se_ix (se_v 5) (se_neg se_int)) (sg_t rfl (sgs_cons (sg_n 10 a.nd) (sgs_cons (sg_n 11 a.nd) sgs_nil))))
    (sss_cons (ss_if (st_cmp (o_eq a) (se_v 9) se_int) (sss_cons (ss_if (st_cmp (o_ne a) (se_meth0 4 a (oD_cls T) (M_Desk_undo T) (by decide)) (se_cmp o_gt (se_fb f_len T.b_len bb_len (sa_cons (se_v 5) sa_nil)) se_int)) (sss_one (ss_ret se_bl)) sss_nil)
    (sss_one (ss_own 5 a (so_sl (se_v 5) sp_none (sp_some (se_fb (f_max2 a) T.b_max bb_max (sa_cons se_int (sa_cons (se_op o_sub (se_fb f_len T.b_len bb_len (sa_cons (se_v 5) sa_nil)) se_int) sa_nil)))))))) (sss_one (ss_if (st_cmp (o_eq a) (se_v 9) se_int) (sss_one (ss_newObL 6 7 a (sb_meth 4 a (oD_cls T) (M_Desk_copy T) (by decide)) (so_ft fo_list T.b_list bt_list (sa_cons (se_v 5) sa_nil)))) (sss_one (ss_if (st_cmp (o_eq a) (se_v 9) se_int) (sss_cons (ss_set 12 a (se_ix (se_o (so_lst (sa_cons se_non (sa_cons se_bl (sa_cons (se_neg se_int) (sa_cons (se_v 3) (sa_cons se_str (sa_cons (se_tup (sa_cons se_int sa_nil)) (sa_cons se_int sa_nil))))))))) (se_draw 1 a (D_law_next T) (by decide) se_int)))
    (sss_one (ss_if (st_w (sw_or (st_cmp o_isNot (se_callO 4 a (D_law_moved T) (by decide) (sa_cons se_int (sa_cons (se_v 12) sa_nil))) se_non) (sw_or1 (st_cmp o_isNot (se_callO 4 a (D_law_moved T) (by decide) (sa_cons (se_v 12) (sa_cons se_int sa_nil))) se_non)))) (sss_one (ss_ret se_bl)) sss_nil))) (sss_cons (ss_set 13 a (se_ix (se_call a (D_law_pairs T) (by decide) (sa_cons (se_v 3) sa_nil)) (se_draw 1 a (D_law_next T) (by decide) (se_op o_mul (se_v 3) (se_op o_sub (se_v 3) se_int)))))
    (sss_cons (ss_setLc 14 (own := [("_law_one", 15)]) a (si_l (se_call a (D_law_pairs T) (by decide) (sa_cons (se_v 3) sa_nil))) (by kernel_rfl) (fun _ _ _ _ _ => (sg_n 15 a.nd)) (fun _ _ _ _ _ a1 => (sts_one (st_b (se_call a1 (D_law_can T) (by decide) (sa_cons (se_v 10) (sa_cons (se_v 15) sa_nil)))))) (fun _ _ _ _ _ a1 => (se_v 15)) (by decide))
    (sss_cons (ss_if (st_w (sw_and (st_cmp (o_ne a) (se_v 14) (se_o (so_lst sa_nil))) (sw_and1 (st_cmp o_gt (se_v 9) se_int)))) (sss_one (ss_set 13 a (se_ix (se_v 14) (se_draw 1 a (D_law_next T) (by decide) (se_fb f_len T.b_len bb_len (sa_cons (se_v 14) sa_nil)))))) sss_nil)
    (sss_cons (ss_set 16 a (se_callO 4 a (D_law_moved T) (by decide) (sa_cons (se_ix (se_v 13) se_int) (sa_cons (se_ix (se_v 13) se_int) sa_nil))))
    (sss_one (ss_if (st_cmp (o_notIn a) (se_v 13) (se_v 14)) (sss_one (ss_if (st_cmp o_isNot (se_v 16) se_non) (sss_one (ss_ret se_bl)) sss_nil)) (sss_one (ss_if (st_cmp (o_ne a) (se_v 16) (se_ix (se_v 10) (se_ix (se_v 13) se_int))) (sss_one (ss_ret se_bl)) (sss_one (ss_app 5 (se_tup (sa_cons (se_call a (D_law_behind T) (by decide) (sa_cons (se_v 10) (sa_cons (se_v 13) sa_nil))) (sa_cons (se_op o_add (se_v 11) (se_tup (sa_cons (se_v 13) sa_nil))) sa_nil))))))))))))))))))
    (sss_one (ss_if (st_not (st_b (se_callO 4 a (D_law_stands T) (by decide) (sa_cons (se_v 5) sa_nil)))) (sss_one (ss_ret se_bl)) sss_nil))))))
    (sss_cons (ss_if (st_w (sw_or (st_not (st_b (se_callO 6 a (D_law_stands T) (by decide) (sa_cons (se_v 7) sa_nil)))) (sw_or1 (st_cmp (o_ne a) (se_meth0 6 a (oD_cls T) (M_Desk_undo T) (by decide)) (se_cmp o_gt (se_fb f_len T.b_len bb_len (sa_cons (se_v 7) sa_nil)) se_int))))) (sss_one (ss_ret se_bl)) sss_nil)
    (sss_one (ss_ret (se_and (se_callO 6 a (D_law_stands T) (by decide) (sa_cons (se_o (so_sl (se_v 7) sp_none (sp_some (se_fb (f_max2 a) T.b_max bb_max (sa_cons se_int (sa_cons (se_op o_sub (se_fb f_len T.b_len bb_len (sa_cons (se_v 7) sa_nil)) se_int) sa_nil)))))) sa_nil)) (se_one (se_callO 4 a (D_law_stands T) (by decide) (sa_cons (se_v 5) sa_nil))))))))))))
end
end Pu

namespace Pu
open PySem L2
theorem all_mk {P : Program} {w : World} {K : PySem.W.Frag} {h : Heap} {mg : Str → Option Value} {fa : Addr} (X : K.In h) (G : h.Ns mainGlobals mg) (hfa : mg "law" = some (.ref fa))
    {f_is_integer : Addr} {oc_is_integer kV_is_integer dc_is_integer pm_is_integer cd_is_integer ct_is_integer : Value} {od_is_integer an_is_integer : Option Addr} {sl_is_integer : Array (Option Value)}
    {f_is_from : Addr} {oc_is_from kV_is_from dc_is_from pm_is_from cd_is_from ct_is_from : Value} {od_is_from an_is_from : Option Addr} {sl_is_from : Array (Option Value)}
    {f_check_heaps : Addr} {oc_check_heaps kV_check_heaps dc_check_heaps pm_check_heaps cd_check_heaps ct_check_heaps : Value} {od_check_heaps an_check_heaps : Option Addr} {sl_check_heaps : Array (Option Value)}
    {f_law_behind : Addr} {oc_law_behind kV_law_behind dc_law_behind pm_law_behind cd_law_behind ct_law_behind : Value} {od_law_behind an_law_behind : Option Addr} {sl_law_behind : Array (Option Value)}
    {f_law_can : Addr} {oc_law_can kV_law_can dc_law_can pm_law_can cd_law_can ct_law_can : Value} {od_law_can an_law_can : Option Addr} {sl_law_can : Array (Option Value)}
    {f_law_heaps : Addr} {oc_law_heaps kV_law_heaps dc_law_heaps pm_law_heaps cd_law_heaps ct_law_heaps : Value} {od_law_heaps an_law_heaps : Option Addr} {sl_law_heaps : Array (Option Value)}
    {f_behind : Addr} {oc_behind kV_behind dc_behind pm_behind cd_behind ct_behind : Value} {od_behind an_behind : Option Addr} {sl_behind : Array (Option Value)}
    {f_can_be_made : Addr} {oc_can_be_made kV_can_be_made dc_can_be_made pm_can_be_made cd_can_be_made ct_can_be_made : Value} {od_can_be_made an_can_be_made : Option Addr} {sl_can_be_made : Array (Option Value)}
    {f_is_step : Addr} {oc_is_step kV_is_step dc_is_step pm_is_step cd_is_step ct_is_step : Value} {od_is_step an_is_step : Option Addr} {sl_is_step : Array (Option Value)}
    {f_law_moved : Addr} {oc_law_moved kV_law_moved dc_law_moved pm_law_moved cd_law_moved ct_law_moved : Value} {od_law_moved an_law_moved : Option Addr} {sl_law_moved : Array (Option Value)}
    {f_law_pairs : Addr} {oc_law_pairs kV_law_pairs dc_law_pairs pm_law_pairs cd_law_pairs ct_law_pairs : Value} {od_law_pairs an_law_pairs : Option Addr} {sl_law_pairs : Array (Option Value)}
    {f_law_stands : Addr} {oc_law_stands kV_law_stands dc_law_stands pm_law_stands cd_law_stands ct_law_stands : Value} {od_law_stands an_law_stands : Option Addr} {sl_law_stands : Array (Option Value)}
    {f_law : Addr} {oc_law kV_law dc_law pm_law cd_law ct_law : Value} {od_law an_law : Option Addr} {sl_law : Array (Option Value)}
    {f_law_mix : Addr} {oc_law_mix kV_law_mix dc_law_mix pm_law_mix cd_law_mix ct_law_mix : Value} {od_law_mix an_law_mix : Option Addr} {sl_law_mix : Array (Option Value)}
    {f_law_next : Addr} {oc_law_next kV_law_next dc_law_next pm_law_next cd_law_next ct_law_next : Value} {od_law_next an_law_next : Option Addr} {sl_law_next : Array (Option Value)}
    {C_Desk : Addr}
    {f_Desk___init__ : Addr} {oc_Desk___init__ kV_Desk___init__ dc_Desk___init__ pm_Desk___init__ cd_Desk___init__ ct_Desk___init__ : Value} {od_Desk___init__ an_Desk___init__ : Option Addr} {sl_Desk___init__ : Array (Option Value)}
    {f_Desk_copy : Addr} {oc_Desk_copy kV_Desk_copy dc_Desk_copy pm_Desk_copy cd_Desk_copy ct_Desk_copy : Value} {od_Desk_copy an_Desk_copy : Option Addr} {sl_Desk_copy : Array (Option Value)}
    {f_Desk_undo : Addr} {oc_Desk_undo kV_Desk_undo dc_Desk_undo pm_Desk_undo cd_Desk_undo ct_Desk_undo : Value} {od_Desk_undo an_Desk_undo : Option Addr} {sl_Desk_undo : Array (Option Value)}
    {f_Desk_move : Addr} {oc_Desk_move kV_Desk_move dc_Desk_move pm_Desk_move cd_Desk_move ct_Desk_move : Value} {od_Desk_move an_Desk_move : Option Addr} {sl_Desk_move : Array (Option Value)}
    {f_Desk___len__ : Addr} {oc_Desk___len__ kV_Desk___len__ dc_Desk___len__ pm_Desk___len__ cd_Desk___len__ ct_Desk___len__ : Value} {od_Desk___len__ an_Desk___len__ : Option Addr} {sl_Desk___len__ : Array (Option Value)}
    {f_Desk_empties : Addr} {oc_Desk_empties kV_Desk_empties dc_Desk_empties pm_Desk_empties cd_Desk_empties ct_Desk_empties : Value} {od_Desk_empties an_Desk_empties : Option Addr} {sl_Desk_empties : Array (Option Value)}
    {f_Desk_heaps : Addr} {oc_Desk_heaps kV_Desk_heaps dc_Desk_heaps pm_Desk_heaps cd_Desk_heaps ct_Desk_heaps : Value} {od_Desk_heaps an_Desk_heaps : Option Addr} {sl_Desk_heaps : Array (Option Value)} {p_Desk_heaps : Addr} {re_Desk_heaps : List Value}
    {f_Desk_plan : Addr} {oc_Desk_plan kV_Desk_plan dc_Desk_plan pm_Desk_plan cd_Desk_plan ct_Desk_plan : Value} {od_Desk_plan an_Desk_plan : Option Addr} {sl_Desk_plan : Array (Option Value)} {p_Desk_plan : Addr} {re_Desk_plan : List Value}
    {C_BadHeaps : Addr}
    {C_BadStep : Addr}
    {C_Full : Addr}
    (a_is_integer : PySem.W.nsIn K mainGlobals "is_integer" = some (some (.ref f_is_integer)))
    (l_is_integer : K.lookup f_is_integer = some ⟨oc_is_integer, od_is_integer, .func (PySem.W.fnOf "is_integer" "is_integer" (defArgs (top 9)) (defBody (top 9)) (defScope (top 9)) .none kV_is_integer dc_is_integer pm_is_integer an_is_integer cd_is_integer ct_is_integer), sl_is_integer⟩)
    (c_is_integer : PySem.W.codeIn K cd_is_integer "is_integer" = true)
    (k_is_integer : PySem.W.keepIn K (.ref f_is_integer) = true)
    (a_is_from : PySem.W.nsIn K mainGlobals "is_from" = some (some (.ref f_is_from)))
    (l_is_from : K.lookup f_is_from = some ⟨oc_is_from, od_is_from, .func (PySem.W.fnOf "is_from" "is_from" (defArgs (top 10)) (defBody (top 10)) (defScope (top 10)) .none kV_is_from dc_is_from pm_is_from an_is_from cd_is_from ct_is_from), sl_is_from⟩)
    (c_is_from : PySem.W.codeIn K cd_is_from "is_from" = true)
    (k_is_from : PySem.W.keepIn K (.ref f_is_from) = true)
    (a_check_heaps : PySem.W.nsIn K mainGlobals "check_heaps" = some (some (.ref f_check_heaps)))
    (l_check_heaps : K.lookup f_check_heaps = some ⟨oc_check_heaps, od_check_heaps, .func (PySem.W.fnOf "check_heaps" "check_heaps" (defArgs (top 11)) (defBody (top 11)) (defScope (top 11)) .none kV_check_heaps dc_check_heaps pm_check_heaps an_check_heaps cd_check_heaps ct_check_heaps), sl_check_heaps⟩)
    (c_check_heaps : PySem.W.codeIn K cd_check_heaps "check_heaps" = true)
    (k_check_heaps : PySem.W.keepIn K (.ref f_check_heaps) = true)
    (a_law_behind : PySem.W.nsIn K mainGlobals "_law_behind" = some (some (.ref f_law_behind)))
    (l_law_behind : K.lookup f_law_behind = some ⟨oc_law_behind, od_law_behind, .func (PySem.W.fnOf "_law_behind" "_law_behind" (defArgs (top 23)) (defBody (top 23)) (defScope (top 23)) .none kV_law_behind dc_law_behind pm_law_behind an_law_behind cd_law_behind ct_law_behind), sl_law_behind⟩)
    (c_law_behind : PySem.W.codeIn K cd_law_behind "_law_behind" = true)
    (k_law_behind : PySem.W.keepIn K (.ref f_law_behind) = true)
    (a_law_can : PySem.W.nsIn K mainGlobals "_law_can" = some (some (.ref f_law_can)))
    (l_law_can : K.lookup f_law_can = some ⟨oc_law_can, od_law_can, .func (PySem.W.fnOf "_law_can" "_law_can" (defArgs (top 22)) (defBody (top 22)) (defScope (top 22)) .none kV_law_can dc_law_can pm_law_can an_law_can cd_law_can ct_law_can), sl_law_can⟩)
    (c_law_can : PySem.W.codeIn K cd_law_can "_law_can" = true)
    (k_law_can : PySem.W.keepIn K (.ref f_law_can) = true)
    (a_law_heaps : PySem.W.nsIn K mainGlobals "_law_heaps" = some (some (.ref f_law_heaps)))
    (l_law_heaps : K.lookup f_law_heaps = some ⟨oc_law_heaps, od_law_heaps, .func (PySem.W.fnOf "_law_heaps" "_law_heaps" (defArgs (top 21)) (defBody (top 21)) (defScope (top 21)) .none kV_law_heaps dc_law_heaps pm_law_heaps an_law_heaps cd_law_heaps ct_law_heaps), sl_law_heaps⟩)
    (c_law_heaps : PySem.W.codeIn K cd_law_heaps "_law_heaps" = true)
    (k_law_heaps : PySem.W.keepIn K (.ref f_law_heaps) = true)
    (a_behind : PySem.W.nsIn K mainGlobals "behind" = some (some (.ref f_behind)))
    (l_behind : K.lookup f_behind = some ⟨oc_behind, od_behind, .func (PySem.W.fnOf "behind" "behind" (defArgs (top 14)) (defBody (top 14)) (defScope (top 14)) .none kV_behind dc_behind pm_behind an_behind cd_behind ct_behind), sl_behind⟩)
    (c_behind : PySem.W.codeIn K cd_behind "behind" = true)
    (k_behind : PySem.W.keepIn K (.ref f_behind) = true)
    (a_can_be_made : PySem.W.nsIn K mainGlobals "can_be_made" = some (some (.ref f_can_be_made)))
    (l_can_be_made : K.lookup f_can_be_made = some ⟨oc_can_be_made, od_can_be_made, .func (PySem.W.fnOf "can_be_made" "can_be_made" (defArgs (top 13)) (defBody (top 13)) (defScope (top 13)) .none kV_can_be_made dc_can_be_made pm_can_be_made an_can_be_made cd_can_be_made ct_can_be_made), sl_can_be_made⟩)
    (c_can_be_made : PySem.W.codeIn K cd_can_be_made "can_be_made" = true)
    (k_can_be_made : PySem.W.keepIn K (.ref f_can_be_made) = true)
    (a_is_step : PySem.W.nsIn K mainGlobals "is_step" = some (some (.ref f_is_step)))
    (l_is_step : K.lookup f_is_step = some ⟨oc_is_step, od_is_step, .func (PySem.W.fnOf "is_step" "is_step" (defArgs (top 12)) (defBody (top 12)) (defScope (top 12)) .none kV_is_step dc_is_step pm_is_step an_is_step cd_is_step ct_is_step), sl_is_step⟩)
    (c_is_step : PySem.W.codeIn K cd_is_step "is_step" = true)
    (k_is_step : PySem.W.keepIn K (.ref f_is_step) = true)
    (a_law_moved : PySem.W.nsIn K mainGlobals "_law_moved" = some (some (.ref f_law_moved)))
    (l_law_moved : K.lookup f_law_moved = some ⟨oc_law_moved, od_law_moved, .func (PySem.W.fnOf "_law_moved" "_law_moved" (defArgs (top 25)) (defBody (top 25)) (defScope (top 25)) .none kV_law_moved dc_law_moved pm_law_moved an_law_moved cd_law_moved ct_law_moved), sl_law_moved⟩)
    (c_law_moved : PySem.W.codeIn K cd_law_moved "_law_moved" = true)
    (k_law_moved : PySem.W.keepIn K (.ref f_law_moved) = true)
    (a_law_pairs : PySem.W.nsIn K mainGlobals "_law_pairs" = some (some (.ref f_law_pairs)))
    (l_law_pairs : K.lookup f_law_pairs = some ⟨oc_law_pairs, od_law_pairs, .func (PySem.W.fnOf "_law_pairs" "_law_pairs" (defArgs (top 24)) (defBody (top 24)) (defScope (top 24)) .none kV_law_pairs dc_law_pairs pm_law_pairs an_law_pairs cd_law_pairs ct_law_pairs), sl_law_pairs⟩)
    (c_law_pairs : PySem.W.codeIn K cd_law_pairs "_law_pairs" = true)
    (k_law_pairs : PySem.W.keepIn K (.ref f_law_pairs) = true)
    (a_law_stands : PySem.W.nsIn K mainGlobals "_law_stands" = some (some (.ref f_law_stands)))
    (l_law_stands : K.lookup f_law_stands = some ⟨oc_law_stands, od_law_stands, .func (PySem.W.fnOf "_law_stands" "_law_stands" (defArgs (top 26)) (defBody (top 26)) (defScope (top 26)) .none kV_law_stands dc_law_stands pm_law_stands an_law_stands cd_law_stands ct_law_stands), sl_law_stands⟩)
    (c_law_stands : PySem.W.codeIn K cd_law_stands "_law_stands" = true)
    (k_law_stands : PySem.W.keepIn K (.ref f_law_stands) = true)
    (a_law : PySem.W.nsIn K mainGlobals "law" = some (some (.ref f_law)))
    (l_law : K.lookup f_law = some ⟨oc_law, od_law, .func (PySem.W.fnOf "law" "law" (defArgs (top 27)) (defBody (top 27)) (defScope (top 27)) .none kV_law dc_law pm_law an_law cd_law ct_law), sl_law⟩)
    (c_law : PySem.W.codeIn K cd_law "law" = true)
    (k_law : PySem.W.keepIn K (.ref f_law) = true)
    (a_law_mix : PySem.W.nsIn K mainGlobals "_law_mix" = some (some (.ref f_law_mix)))
    (l_law_mix : K.lookup f_law_mix = some ⟨oc_law_mix, od_law_mix, .func (PySem.W.fnOf "_law_mix" "_law_mix" (defArgs (top 19)) (defBody (top 19)) (defScope (top 19)) .none kV_law_mix dc_law_mix pm_law_mix an_law_mix cd_law_mix ct_law_mix), sl_law_mix⟩)
    (c_law_mix : PySem.W.codeIn K cd_law_mix "_law_mix" = true)
    (k_law_mix : PySem.W.keepIn K (.ref f_law_mix) = true)
    (a_law_next : PySem.W.nsIn K mainGlobals "_law_next" = some (some (.ref f_law_next)))
    (l_law_next : K.lookup f_law_next = some ⟨oc_law_next, od_law_next, .func (PySem.W.fnOf "_law_next" "_law_next" (defArgs (top 20)) (defBody (top 20)) (defScope (top 20)) .none kV_law_next dc_law_next pm_law_next an_law_next cd_law_next ct_law_next), sl_law_next⟩)
    (c_law_next : PySem.W.codeIn K cd_law_next "_law_next" = true)
    (k_law_next : PySem.W.keepIn K (.ref f_law_next) = true)
    (g_Desk : PySem.W.nsIn K mainGlobals "Desk" = some (some (.ref C_Desk)))
    (pg_Desk : PySem.W.plainGet K C_Desk Str.empty = true)
    (hd_Desk : PySem.W.hasDictIn K C_Desk = true)
    (po_Desk : PySem.W.plainOver K C_Desk = true)
    (sa_Desk : PySem.W.findIn K (.ref C_Desk) "__setattr__" = some (some (.builtin "object.__setattr__")))
    (na_past : PySem.W.findIn K (.ref C_Desk) "past" = some none)
    (na_done : PySem.W.findIn K (.ref C_Desk) "done" = some none)
    (mk_Desk___init__ : PySem.W.makesIn K C_Desk = true)
    (at_Desk___init__ : PySem.W.findIn K (.ref C_Desk) "__init__" = some (some (.ref f_Desk___init__)))
    (fn_Desk___init__ : PySem.W.isFn K (.ref f_Desk___init__) = true)
    (kc_Desk___init__ : PySem.W.keepIn K (.ref C_Desk) = true)
    (l_Desk___init__ : K.lookup f_Desk___init__ = some ⟨oc_Desk___init__, od_Desk___init__, .func (PySem.W.fnOf "__init__" "Desk.__init__" (defArgs (inC (top 17) 0)) (defBody (inC (top 17) 0)) (defScope (inC (top 17) 0)) .none kV_Desk___init__ dc_Desk___init__ pm_Desk___init__ an_Desk___init__ cd_Desk___init__ ct_Desk___init__), sl_Desk___init__⟩)
    (c_Desk___init__ : PySem.W.codeIn K cd_Desk___init__ "Desk.__init__" = true)
    (k_Desk___init__ : PySem.W.keepIn K (.ref f_Desk___init__) = true)
    (at_Desk_copy : PySem.W.findIn K (.ref C_Desk) "copy" = some (some (.ref f_Desk_copy)))
    (fn_Desk_copy : PySem.W.isFn K (.ref f_Desk_copy) = true)
    (l_Desk_copy : K.lookup f_Desk_copy = some ⟨oc_Desk_copy, od_Desk_copy, .func (PySem.W.fnOf "copy" "Desk.copy" (defArgs (inC (top 17) 6)) (defBody (inC (top 17) 6)) (defScope (inC (top 17) 6)) .none kV_Desk_copy dc_Desk_copy pm_Desk_copy an_Desk_copy cd_Desk_copy ct_Desk_copy), sl_Desk_copy⟩)
    (c_Desk_copy : PySem.W.codeIn K cd_Desk_copy "Desk.copy" = true)
    (k_Desk_copy : PySem.W.keepIn K (.ref f_Desk_copy) = true)
    (at_Desk_undo : PySem.W.findIn K (.ref C_Desk) "undo" = some (some (.ref f_Desk_undo)))
    (fn_Desk_undo : PySem.W.isFn K (.ref f_Desk_undo) = true)
    (l_Desk_undo : K.lookup f_Desk_undo = some ⟨oc_Desk_undo, od_Desk_undo, .func (PySem.W.fnOf "undo" "Desk.undo" (defArgs (inC (top 17) 5)) (defBody (inC (top 17) 5)) (defScope (inC (top 17) 5)) .none kV_Desk_undo dc_Desk_undo pm_Desk_undo an_Desk_undo cd_Desk_undo ct_Desk_undo), sl_Desk_undo⟩)
    (c_Desk_undo : PySem.W.codeIn K cd_Desk_undo "Desk.undo" = true)
    (k_Desk_undo : PySem.W.keepIn K (.ref f_Desk_undo) = true)
    (at_Desk_move : PySem.W.findIn K (.ref C_Desk) "move" = some (some (.ref f_Desk_move)))
    (fn_Desk_move : PySem.W.isFn K (.ref f_Desk_move) = true)
    (l_Desk_move : K.lookup f_Desk_move = some ⟨oc_Desk_move, od_Desk_move, .func (PySem.W.fnOf "move" "Desk.move" (defArgs (inC (top 17) 3)) (defBody (inC (top 17) 3)) (defScope (inC (top 17) 3)) .none kV_Desk_move dc_Desk_move pm_Desk_move an_Desk_move cd_Desk_move ct_Desk_move), sl_Desk_move⟩)
    (c_Desk_move : PySem.W.codeIn K cd_Desk_move "Desk.move" = true)
    (k_Desk_move : PySem.W.keepIn K (.ref f_Desk_move) = true)
    (at_Desk___len__ : PySem.W.findIn K (.ref C_Desk) "__len__" = some (some (.ref f_Desk___len__)))
    (fn_Desk___len__ : PySem.W.isFn K (.ref f_Desk___len__) = true)
    (l_Desk___len__ : K.lookup f_Desk___len__ = some ⟨oc_Desk___len__, od_Desk___len__, .func (PySem.W.fnOf "__len__" "Desk.__len__" (defArgs (inC (top 17) 7)) (defBody (inC (top 17) 7)) (defScope (inC (top 17) 7)) .none kV_Desk___len__ dc_Desk___len__ pm_Desk___len__ an_Desk___len__ cd_Desk___len__ ct_Desk___len__), sl_Desk___len__⟩)
    (c_Desk___len__ : PySem.W.codeIn K cd_Desk___len__ "Desk.__len__" = true)
    (k_Desk___len__ : PySem.W.keepIn K (.ref f_Desk___len__) = true)
    (at_Desk_empties : PySem.W.findIn K (.ref C_Desk) "empties" = some (some (.ref f_Desk_empties)))
    (fn_Desk_empties : PySem.W.isFn K (.ref f_Desk_empties) = true)
    (l_Desk_empties : K.lookup f_Desk_empties = some ⟨oc_Desk_empties, od_Desk_empties, .func (PySem.W.fnOf "empties" "Desk.empties" (defArgs (inC (top 17) 4)) (defBody (inC (top 17) 4)) (defScope (inC (top 17) 4)) .none kV_Desk_empties dc_Desk_empties pm_Desk_empties an_Desk_empties cd_Desk_empties ct_Desk_empties), sl_Desk_empties⟩)
    (c_Desk_empties : PySem.W.codeIn K cd_Desk_empties "Desk.empties" = true)
    (k_Desk_empties : PySem.W.keepIn K (.ref f_Desk_empties) = true)
    (at_Desk_heaps : PySem.W.findIn K (.ref C_Desk) "heaps" = some (some (.ref p_Desk_heaps)))
    (ge_Desk_heaps : PySem.W.specialIn K (.ref p_Desk_heaps) "__get__" = some (some (.builtin "property.__get__")))
    (tk_Desk_heaps : PySem.W.takesIn K (.ref p_Desk_heaps) = some true)
    (rc_Desk_heaps : PySem.W.recIn K p_Desk_heaps "property" = some (.ref f_Desk_heaps :: re_Desk_heaps))
    (l_Desk_heaps : K.lookup f_Desk_heaps = some ⟨oc_Desk_heaps, od_Desk_heaps, .func (PySem.W.fnOf "heaps" "Desk.heaps" (defArgs (inC (top 17) 1)) (defBody (inC (top 17) 1)) (defScope (inC (top 17) 1)) .none kV_Desk_heaps dc_Desk_heaps pm_Desk_heaps an_Desk_heaps cd_Desk_heaps ct_Desk_heaps), sl_Desk_heaps⟩)
    (c_Desk_heaps : PySem.W.codeIn K cd_Desk_heaps "Desk.heaps" = true)
    (k_Desk_heaps : PySem.W.keepIn K (.ref f_Desk_heaps) = true)
    (at_Desk_plan : PySem.W.findIn K (.ref C_Desk) "plan" = some (some (.ref p_Desk_plan)))
    (ge_Desk_plan : PySem.W.specialIn K (.ref p_Desk_plan) "__get__" = some (some (.builtin "property.__get__")))
    (tk_Desk_plan : PySem.W.takesIn K (.ref p_Desk_plan) = some true)
    (rc_Desk_plan : PySem.W.recIn K p_Desk_plan "property" = some (.ref f_Desk_plan :: re_Desk_plan))
    (l_Desk_plan : K.lookup f_Desk_plan = some ⟨oc_Desk_plan, od_Desk_plan, .func (PySem.W.fnOf "plan" "Desk.plan" (defArgs (inC (top 17) 2)) (defBody (inC (top 17) 2)) (defScope (inC (top 17) 2)) .none kV_Desk_plan dc_Desk_plan pm_Desk_plan an_Desk_plan cd_Desk_plan ct_Desk_plan), sl_Desk_plan⟩)
    (c_Desk_plan : PySem.W.codeIn K cd_Desk_plan "Desk.plan" = true)
    (k_Desk_plan : PySem.W.keepIn K (.ref f_Desk_plan) = true)
    (b_bool : PySem.W.nsIn K mainGlobals "bool" = some none)
    (b_int : PySem.W.nsIn K mainGlobals "int" = some none)
    (b_isinstance : PySem.W.nsIn K mainGlobals "isinstance" = some none)
    (b_len : PySem.W.nsIn K mainGlobals "len" = some none)
    (b_list : PySem.W.nsIn K mainGlobals "list" = some none)
    (b_max : PySem.W.nsIn K mainGlobals "max" = some none)
    (b_range : PySem.W.nsIn K mainGlobals "range" = some none)
    (b_tuple : PySem.W.nsIn K mainGlobals "tuple" = some none)
    (v_LEAST_HEAPS : ∃ t, mg "LEAST_HEAPS" = some (.int 2 t))
    (v_MOST_HEAPS : ∃ t, mg "MOST_HEAPS" = some (.int 6 t))
    (v_MOST_IN_HEAP : ∃ t, mg "MOST_IN_HEAP" = some (.int 1000000000000000000000000000000 t))
    (v_MOST_MADE : ∃ t, mg "MOST_MADE" = some (.int 100 t))
    (g_BadHeaps : PySem.W.nsIn K mainGlobals "BadHeaps" = some (some (.ref C_BadHeaps)))
    (kc_BadHeaps : PySem.W.keepIn K (.ref C_BadHeaps) = true)
    (sb_BadHeaps : PySem.W.subIn K (.ref C_BadHeaps) (.type "BaseException") = some true)
    (ty_BadHeaps : PySem.W.typeIn K (.ref C_BadHeaps) = some (.type "type"))
    (g_BadStep : PySem.W.nsIn K mainGlobals "BadStep" = some (some (.ref C_BadStep)))
    (kc_BadStep : PySem.W.keepIn K (.ref C_BadStep) = true)
    (sb_BadStep : PySem.W.subIn K (.ref C_BadStep) (.type "BaseException") = some true)
    (ty_BadStep : PySem.W.typeIn K (.ref C_BadStep) = some (.type "type"))
    (g_Full : PySem.W.nsIn K mainGlobals "Full" = some (some (.ref C_Full)))
    (kc_Full : PySem.W.keepIn K (.ref C_Full) = true)
    (sb_Full : PySem.W.subIn K (.ref C_Full) (.type "BaseException") = some true)
    (ty_Full : PySem.W.typeIn K (.ref C_Full) = some (.type "type"))
    (ex_BadHeaps : PySem.W.excIn K C_BadHeaps [.type "ValueError", .type "Exception", .type "BaseException", .type "object"] "ValueError.__new__" = true)
    (ex_BadStep : PySem.W.excIn K C_BadStep [.type "ValueError", .type "Exception", .type "BaseException", .type "object"] "ValueError.__new__" = true)
    (ex_Full : PySem.W.excIn K C_Full [.type "ValueError", .type "Exception", .type "BaseException", .type "object"] "ValueError.__new__" = true)
    (hd_BadStep : PySem.W.hasDictIn K C_BadStep = true)
    (ga_BadStep : PySem.W.findIn K (.ref C_BadStep) "__getattribute__" = some (some (.builtin "BaseException.__getattribute__")))
    (gg_BadStep : PySem.W.findIn K (.ref C_BadStep) "__getattr__" = some none)
    (su_BadStep_BadStep : PySem.W.subIn K (.ref C_BadStep) (.ref C_BadStep) = some true)
    : ∃ fd : FuncData, (∀ (s : Shared) (v : Value), BindsTo s fd ⟨[v], []⟩ [("_law_script", v)]) ∧ ∀ base : Heap, K.In base → base.Ns mainGlobals mg → FnOk P w K mg base (L2.CX P w) 7 fa fd ["_law_script"] (spLaw K) := by
  have e := hfa.symm.trans (PySem.W.mg_of X G a_law)
  cases e
  have T : Txt K mg := {
    f_is_integer := ⟨_, _, fun_mk (st := top 9) l_is_integer c_is_integer k_is_integer, PySem.W.mg_of X G a_is_integer⟩
    f_is_from := ⟨_, _, fun_mk (st := top 10) l_is_from c_is_from k_is_from, PySem.W.mg_of X G a_is_from⟩
    f_check_heaps := ⟨_, _, fun_mk (st := top 11) l_check_heaps c_check_heaps k_check_heaps, PySem.W.mg_of X G a_check_heaps⟩
    f_law_behind := ⟨_, _, fun_mk (st := top 23) l_law_behind c_law_behind k_law_behind, PySem.W.mg_of X G a_law_behind⟩
    f_law_can := ⟨_, _, fun_mk (st := top 22) l_law_can c_law_can k_law_can, PySem.W.mg_of X G a_law_can⟩
    f_law_heaps := ⟨_, _, fun_mk (st := top 21) l_law_heaps c_law_heaps k_law_heaps, PySem.W.mg_of X G a_law_heaps⟩
    f_behind := ⟨_, _, fun_mk (st := top 14) l_behind c_behind k_behind, PySem.W.mg_of X G a_behind⟩
    f_can_be_made := ⟨_, _, fun_mk (st := top 13) l_can_be_made c_can_be_made k_can_be_made, PySem.W.mg_of X G a_can_be_made⟩
    f_is_step := ⟨_, _, fun_mk (st := top 12) l_is_step c_is_step k_is_step, PySem.W.mg_of X G a_is_step⟩
    f_law_moved := ⟨_, _, fun_mk (st := top 25) l_law_moved c_law_moved k_law_moved, PySem.W.mg_of X G a_law_moved⟩
    f_law_pairs := ⟨_, _, fun_mk (st := top 24) l_law_pairs c_law_pairs k_law_pairs, PySem.W.mg_of X G a_law_pairs⟩
    f_law_stands := ⟨_, _, fun_mk (st := top 26) l_law_stands c_law_stands k_law_stands, PySem.W.mg_of X G a_law_stands⟩
    f_law := ⟨_, _, fun_mk (st := top 27) l_law c_law k_law, PySem.W.mg_of X G a_law⟩
    f_law_mix := ⟨_, _, fun_mk (st := top 19) l_law_mix c_law_mix k_law_mix, PySem.W.mg_of X G a_law_mix⟩
    f_law_next := ⟨_, _, fun_mk (st := top 20) l_law_next c_law_next k_law_next, PySem.W.mg_of X G a_law_next⟩
    b_bool := PySem.W.mg_none_of X G b_bool
    b_int := PySem.W.mg_none_of X G b_int
    b_isinstance := PySem.W.mg_none_of X G b_isinstance
    b_len := PySem.W.mg_none_of X G b_len
    b_list := PySem.W.mg_none_of X G b_list
    b_max := PySem.W.mg_none_of X G b_max
    b_range := PySem.W.mg_none_of X G b_range
    b_tuple := PySem.W.mg_none_of X G b_tuple
    c_LEAST_HEAPS := v_LEAST_HEAPS
    c_MOST_HEAPS := v_MOST_HEAPS
    c_MOST_IN_HEAP := v_MOST_IN_HEAP
    c_MOST_MADE := v_MOST_MADE
    r_BadHeaps := ⟨C_BadHeaps, PySem.W.mg_of X G g_BadHeaps, kc_BadHeaps, ex_BadHeaps, sb_BadHeaps, ty_BadHeaps⟩
    r_BadStep := ⟨C_BadStep, PySem.W.mg_of X G g_BadStep, kc_BadStep, ex_BadStep, sb_BadStep, ty_BadStep⟩
    r_Full := ⟨C_Full, PySem.W.mg_of X G g_Full, kc_Full, ex_Full, sb_Full, ty_Full⟩
    x_BadStep := ⟨C_BadStep, PySem.W.mg_of X G g_BadStep, ⟨fun x b hx A hA => by
      by_cases eBadStep : x = "BadStep"
      · subst eBadStep
        cases hx
        cases hA.symm.trans (PySem.W.mg_of X G g_BadStep)
        exact PySem.W.exm_ref sb_BadStep hd_BadStep ty_BadStep su_BadStep_BadStep
      simp only [m_BadStep, if_neg eBadStep] at hx; cases hx⟩, 
      ⟨ga_BadStep, gg_BadStep, sb_BadStep, hd_BadStep⟩, trivial⟩
    oD := ⟨C_Desk, PySem.W.mg_of X G g_Desk, ⟨pg_Desk, hd_Desk, po_Desk, sa_Desk⟩, na_past, na_done, ⟨_, _, ⟨mk_Desk___init__, at_Desk___init__, fn_Desk___init__, kc_Desk___init__⟩, fun_mk (st := (inC (top 17) 0)) l_Desk___init__ c_Desk___init__ k_Desk___init__⟩, ⟨_, _, ⟨at_Desk_copy, fn_Desk_copy, k_Desk_copy⟩, fun_mk (st := (inC (top 17) 6)) l_Desk_copy c_Desk_copy k_Desk_copy⟩, ⟨_, _, ⟨at_Desk_undo, fn_Desk_undo, k_Desk_undo⟩, fun_mk (st := (inC (top 17) 5)) l_Desk_undo c_Desk_undo k_Desk_undo⟩, ⟨_, _, ⟨at_Desk_move, fn_Desk_move, k_Desk_move⟩, fun_mk (st := (inC (top 17) 3)) l_Desk_move c_Desk_move k_Desk_move⟩, ⟨_, _, ⟨at_Desk___len__, fn_Desk___len__, k_Desk___len__⟩, fun_mk (st := (inC (top 17) 7)) l_Desk___len__ c_Desk___len__ k_Desk___len__⟩, ⟨_, _, ⟨at_Desk_empties, fn_Desk_empties, k_Desk_empties⟩, fun_mk (st := (inC (top 17) 4)) l_Desk_empties c_Desk_empties k_Desk_empties⟩, ⟨_, _, _, ⟨at_Desk_heaps, ge_Desk_heaps, tk_Desk_heaps, ⟨_, rc_Desk_heaps⟩⟩, fun_mk (st := (inC (top 17) 1)) l_Desk_heaps c_Desk_heaps k_Desk_heaps⟩, ⟨_, _, _, ⟨at_Desk_plan, ge_Desk_plan, tk_Desk_plan, ⟨_, rc_Desk_plan⟩⟩, fun_mk (st := (inC (top 17) 2)) l_Desk_plan c_Desk_plan k_Desk_plan⟩⟩
  }
  exact ⟨PySem.W.fnOf "law" "law" (defArgs (top 27)) (defBody (top 27)) (defScope (top 27)) .none kV_law dc_law pm_law an_law cd_law ct_law, fun s v => .of_eq rfl, fun base _ _ => ok_law T (fun_mk (st := top 27) l_law c_law k_law)⟩
end Pu
open PySem PySem.W PyProof.Rows
set_option maxRecDepth 100000 in
set_option maxHeartbeats 0 in
theorem PySem.Challenge.cw_heapsdouble_k06_whole_led_desk_holds : PySem.Challenge.rw_heapsdouble_k06_whole_led_desk.Holds := by
  w_on; o_law; k_head; (case hw => w_witness2)
  k_fill
  refine Pu.law_walk (l := PySem.Challenge.rw_heapsdouble_k06_whole_led_desk) (k := 7) rfl rfl ⟨rfl, by decide, by decide⟩ (fun w g Y => PySem.W.kIn_of Y) ?F
  case F =>
    intro w mg fa g KX G LX hmg
    refine' Pu.all_mk KX G hmg ?a_is_integer ?l_is_integer ?c_is_integer ?k_is_integer ?a_is_from ?l_is_from ?c_is_from ?k_is_from ?a_check_heaps ?l_check_heaps ?c_check_heaps ?k_check_heaps ?a_law_behind ?l_law_behind ?c_law_behind ?k_law_behind ?a_law_can ?l_law_can ?c_law_can ?k_law_can ?a_law_heaps ?l_law_heaps ?c_law_heaps ?k_law_heaps ?a_behind ?l_behind ?c_behind ?k_behind ?a_can_be_made ?l_can_be_made ?c_can_be_made ?k_can_be_made ?a_is_step ?l_is_step ?c_is_step ?k_is_step ?a_law_moved ?l_law_moved ?c_law_moved ?k_law_moved ?a_law_pairs ?l_law_pairs ?c_law_pairs ?k_law_pairs ?a_law_stands ?l_law_stands ?c_law_stands ?k_law_stands ?a_law ?l_law ?c_law ?k_law ?a_law_mix ?l_law_mix ?c_law_mix ?k_law_mix ?a_law_next ?l_law_next ?c_law_next ?k_law_next ?g_Desk ?pg_Desk ?hd_Desk ?po_Desk ?sa_Desk ?na_past ?na_done ?mk_Desk___init__ ?at_Desk___init__ ?fn_Desk___init__ ?kc_Desk___init__ ?l_Desk___init__ ?c_Desk___init__ ?k_Desk___init__ ?at_Desk_copy ?fn_Desk_copy ?l_Desk_copy ?c_Desk_copy ?k_Desk_copy ?at_Desk_undo ?fn_Desk_undo ?l_Desk_undo ?c_Desk_undo ?k_Desk_undo ?at_Desk_move ?fn_Desk_move ?l_Desk_move ?c_Desk_move ?k_Desk_move ?at_Desk___len__ ?fn_Desk___len__ ?l_Desk___len__ ?c_Desk___len__ ?k_Desk___len__ ?at_Desk_empties ?fn_Desk_empties ?l_Desk_empties ?c_Desk_empties ?k_Desk_empties ?at_Desk_heaps ?ge_Desk_heaps ?tk_Desk_heaps ?rc_Desk_heaps ?l_Desk_heaps ?c_Desk_heaps ?k_Desk_heaps ?at_Desk_plan ?ge_Desk_plan ?tk_Desk_plan ?rc_Desk_plan ?l_Desk_plan ?c_Desk_plan ?k_Desk_plan ?b_bool ?b_int ?b_isinstance ?b_len ?b_list ?b_max ?b_range ?b_tuple ?v_LEAST_HEAPS ?v_MOST_HEAPS ?v_MOST_IN_HEAP ?v_MOST_MADE ?g_BadHeaps ?kc_BadHeaps ?sb_BadHeaps ?ty_BadHeaps ?g_BadStep ?kc_BadStep ?sb_BadStep ?ty_BadStep ?g_Full ?kc_Full ?sb_Full ?ty_Full ?ex_BadHeaps ?ex_BadStep ?ex_Full ?hd_BadStep ?ga_BadStep ?gg_BadStep ?su_BadStep_BadStep
    (case a_is_integer => k_is)
    (case l_is_integer => k_is)
    (case c_is_integer => k_is)
    (case k_is_integer => k_is)
    (case a_is_from => k_is)
    (case l_is_from => k_is)
    (case c_is_from => k_is)
    (case k_is_from => k_is)
    (case a_check_heaps => k_is)
    (case l_check_heaps => k_is)
    (case c_check_heaps => k_is)
    (case k_check_heaps => k_is)
    (case a_law_behind => k_is)
    (case l_law_behind => k_is)
    (case c_law_behind => k_is)
    (case k_law_behind => k_is)
    (case a_law_can => k_is)
    (case l_law_can => k_is)
    (case c_law_can => k_is)
    (case k_law_can => k_is)
    (case a_law_heaps => k_is)
    (case l_law_heaps => k_is)
    (case c_law_heaps => k_is)
    (case k_law_heaps => k_is)
    (case a_behind => k_is)
    (case l_behind => k_is)
    (case c_behind => k_is)
    (case k_behind => k_is)
    (case a_can_be_made => k_is)
    (case l_can_be_made => k_is)
    (case c_can_be_made => k_is)
    (case k_can_be_made => k_is)
    (case a_is_step => k_is)
    (case l_is_step => k_is)
    (case c_is_step => k_is)
    (case k_is_step => k_is)
    (case a_law_moved => k_is)
    (case l_law_moved => k_is)
    (case c_law_moved => k_is)
    (case k_law_moved => k_is)
    (case a_law_pairs => k_is)
    (case l_law_pairs => k_is)
    (case c_law_pairs => k_is)
    (case k_law_pairs => k_is)
    (case a_law_stands => k_is)
    (case l_law_stands => k_is)
    (case c_law_stands => k_is)
    (case k_law_stands => k_is)
    (case a_law => k_is)
    (case l_law => k_is)
    (case c_law => k_is)
    (case k_law => k_is)
    (case a_law_mix => k_is)
    (case l_law_mix => k_is)
    (case c_law_mix => k_is)
    (case k_law_mix => k_is)
    (case a_law_next => k_is)
    (case l_law_next => k_is)
    (case c_law_next => k_is)
    (case k_law_next => k_is)
    (case g_Desk => k_is)
    (case pg_Desk => k_is)
    (case hd_Desk => k_is)
    (case po_Desk => k_is)
    (case sa_Desk => k_is)
    (case na_past => k_is)
    (case na_done => k_is)
    (case mk_Desk___init__ => k_is)
    (case at_Desk___init__ => k_is)
    (case fn_Desk___init__ => k_is)
    (case kc_Desk___init__ => k_is)
    (case l_Desk___init__ => k_is)
    (case c_Desk___init__ => k_is)
    (case k_Desk___init__ => k_is)
    (case at_Desk_copy => k_is)
    (case fn_Desk_copy => k_is)
    (case l_Desk_copy => k_is)
    (case c_Desk_copy => k_is)
    (case k_Desk_copy => k_is)
    (case at_Desk_undo => k_is)
    (case fn_Desk_undo => k_is)
    (case l_Desk_undo => k_is)
    (case c_Desk_undo => k_is)
    (case k_Desk_undo => k_is)
    (case at_Desk_move => k_is)
    (case fn_Desk_move => k_is)
    (case l_Desk_move => k_is)
    (case c_Desk_move => k_is)
    (case k_Desk_move => k_is)
    (case at_Desk___len__ => k_is)
    (case fn_Desk___len__ => k_is)
    (case l_Desk___len__ => k_is)
    (case c_Desk___len__ => k_is)
    (case k_Desk___len__ => k_is)
    (case at_Desk_empties => k_is)
    (case fn_Desk_empties => k_is)
    (case l_Desk_empties => k_is)
    (case c_Desk_empties => k_is)
    (case k_Desk_empties => k_is)
    (case at_Desk_heaps => k_is)
    (case ge_Desk_heaps => k_is)
    (case tk_Desk_heaps => k_is)
    (case rc_Desk_heaps => k_is)
    (case l_Desk_heaps => k_is)
    (case c_Desk_heaps => k_is)
    (case k_Desk_heaps => k_is)
    (case at_Desk_plan => k_is)
    (case ge_Desk_plan => k_is)
    (case tk_Desk_plan => k_is)
    (case rc_Desk_plan => k_is)
    (case l_Desk_plan => k_is)
    (case c_Desk_plan => k_is)
    (case k_Desk_plan => k_is)
    (case b_bool => k_is)
    (case b_int => k_is)
    (case b_isinstance => k_is)
    (case b_len => k_is)
    (case b_list => k_is)
    (case b_max => k_is)
    (case b_range => k_is)
    (case b_tuple => k_is)
    (case v_LEAST_HEAPS => exact ⟨_, PySem.W.mg_of KX G (by k_is)⟩)
    (case v_MOST_HEAPS => exact ⟨_, PySem.W.mg_of KX G (by k_is)⟩)
    (case v_MOST_IN_HEAP => exact Pu.loose_int LX (by simp))
    (case v_MOST_MADE => exact ⟨_, PySem.W.mg_of KX G (by k_is)⟩)
    (case g_BadHeaps => k_is)
    (case kc_BadHeaps => k_is)
    (case sb_BadHeaps => k_is)
    (case ty_BadHeaps => k_is)
    (case g_BadStep => k_is)
    (case kc_BadStep => k_is)
    (case sb_BadStep => k_is)
    (case ty_BadStep => k_is)
    (case g_Full => k_is)
    (case kc_Full => k_is)
    (case sb_Full => k_is)
    (case ty_Full => k_is)
    (case ex_BadHeaps => k_exc)
    (case ex_BadStep => k_exc)
    (case ex_Full => k_exc)
    (case hd_BadStep => k_is)
    (case ga_BadStep => k_is)
    (case gg_BadStep => k_is)
    (case su_BadStep_BadStep => first | rfl | k_is)

