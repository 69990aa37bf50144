import PyProof.Rows.All
import Wide.All
import OpenK.AllK
import Wide.FinOn
import HandS.ForMost
import HandS.ForExc
import HandS.Wide
import HandS.IsInst
import HandS.Deep
import KE.SortData
import HandS.TupAny
import HandS.WideMore
import KE.DataMinMax
import HandS.SortInts
import HandS.Flow
import KE.GoesEnum
import KE.KTupSum
import HandS.TryOnly
import HandS.ExcInit
import HandS.ExcField
import HandS.Style
import HandS.Comp
import HandS.ExcIs
import HandS.FStr
import HandS.NoneIn
import KE.KExcIs
import HandS.Codes
import PySem.Challenge.RW_heapsdouble_k08_whole_texts_refused
set_option Elab.async false
set_option linter.all false
set_option maxRecDepth 100000
namespace Pu
open PySem L2

/-! ### data -/
mutual
def flat : PyData → Bool
  | .list _ => false
  | .dict _ => false
  | .tuple xs => flats xs
  | .none => true
  | .bool _ => true
  | .int _ => true
  | .str _ => true
def flats : List PyData → Bool
  | [] => true
  | x :: r => flat x && flats r
end
theorem flats_iff : ∀ {xs : List PyData}, flats xs = true ↔ ∀ x ∈ xs, flat x = true
  | [] => by simp [flats]
  | x :: r => by simp [flats, flats_iff (xs := r)]
def keyD : Key → PyData
  | .inl i => .int i
  | .inr s => .str s

/-! ### heaps: an object less its lock -/
def isDct : HO → Bool
  | .dK _ => true
  | .dT _ => true
  | _ => false
def isTup : HO → Bool
  | .tup _ => true
  | .xd _ => true
  | _ => false
def core : HO → HO
  | .frz o w => if isDct w then w else .frz o w
  | u => u
def co (H : Hp) : Hp := fun a => (H a).map core
theorem co_none {H : Hp} {a : Addr} : co H a = none ↔ H a = none := by
  unfold co
  cases H a <;> simp
theorem core_lst {u : HO} {xs : List V} (h : core u = .lst xs) : u = .lst xs := by
  cases u <;> simp [core] at h ⊢
  · exact h
  · rename_i o w
    cases w <;> simp [isDct] at h
theorem core_tup {u : HO} {xs : List V} (h : core u = .tup xs) : u = .tup xs := by
  cases u <;> simp [core] at h ⊢
  · exact h
  · rename_i o w
    cases w <;> simp [isDct] at h
theorem core_dK {u : HO} {xs : List (Key × V)} (h : core u = .dK xs) : u = .dK xs ∨ ∃ o, u = .frz o (.dK xs) := by
  cases u <;> simp [core] at h ⊢
  · exact h
  · rename_i o w
    cases w <;> simp [isDct] at h ⊢
    exact h
theorem core_dT {u : HO} {xs : List (List Key × V)} (h : core u = .dT xs) : u = .dT xs ∨ ∃ o, u = .frz o (.dT xs) := by
  cases u <;> simp [core] at h ⊢
  · exact h
  · rename_i o w
    cases w <;> simp [isDct] at h ⊢
    exact h
theorem co_lst {H : Hp} {a : Addr} {xs : List V} (h : co H a = some (.lst xs)) : H a = some (.lst xs) := by
  unfold co at h
  cases e : H a with
  | none => rw [e] at h; cases h
  | some u => rw [e] at h; rw [core_lst (Option.some.inj h)]
theorem co_tup {H : Hp} {a : Addr} {xs : List V} (h : co H a = some (.tup xs)) : H a = some (.tup xs) := by
  unfold co at h
  cases e : H a with
  | none => rw [e] at h; cases h
  | some u => rw [e] at h; rw [core_tup (Option.some.inj h)]
theorem co_dK {H : Hp} {a : Addr} {xs : List (Key × V)} (h : co H a = some (.dK xs)) : Rd H a (.dK xs) := by
  unfold co at h
  cases e : H a with
  | none => rw [e] at h; cases h
  | some u =>
    rw [e] at h
    rcases core_dK (Option.some.inj h) with z | ⟨o, z⟩
    · exact .inl (by rw [e, z])
    · exact .inr ⟨o, by rw [e, z]⟩
theorem co_dT {H : Hp} {a : Addr} {xs : List (List Key × V)} (h : co H a = some (.dT xs)) : Rd H a (.dT xs) := by
  unfold co at h
  cases e : H a with
  | none => rw [e] at h; cases h
  | some u =>
    rw [e] at h
    rcases core_dT (Option.some.inj h) with z | ⟨o, z⟩
    · exact .inl (by rw [e, z])
    · exact .inr ⟨o, by rw [e, z]⟩
theorem co_upd {H : Hp} {a : Addr} {u : HO} : co (upd H a u) = upd (co H) a (core u) := by
  funext b
  unfold co upd
  by_cases e : b = a
  · rw [if_pos e, if_pos e]; rfl
  · rw [if_neg e, if_neg e]
theorem co_of {H : Hp} {a : Addr} {u : HO} (h : H a = some u) : co H a = some (core u) := by
  unfold co; rw [h]; rfl

/-! ### what a value stands for -/
mutual
inductive Rp (G : Hp) : V → PyData → Prop
  | non : Rp G .non .none
  | bl (b : Bool) : Rp G (.bl b) (.bool b)
  | int (i : Int) : Rp G (.int i) (.int i)
  | str (s : Str) : Rp G (.str s) (.str s)
  | lst {a : Addr} {vs : List V} {ds : List PyData} : G a = some (.lst vs) → RpAll G vs ds → Rp G (.ref a) (.list ds)
  | tup {a : Addr} {vs : List V} {ds : List PyData} : G a = some (.tup vs) → RpAll G vs ds → Rp G (.ref a) (.tuple ds)
  | dK {a : Addr} {kvs : List (Key × V)} {es : List (PyData × PyData)} : G a = some (.dK kvs) → RpK G kvs es → Rp G (.ref a) (.dict es)
  | dT {a : Addr} {kvs : List (List Key × V)} {es : List (PyData × PyData)} : G a = some (.dT kvs) → RpT G kvs es → Rp G (.ref a) (.dict es)
inductive RpAll (G : Hp) : List V → List PyData → Prop
  | nil : RpAll G [] []
  | cons {v : V} {d : PyData} {vs : List V} {ds : List PyData} : Rp G v d → RpAll G vs ds → RpAll G (v :: vs) (d :: ds)
inductive RpK (G : Hp) : List (Key × V) → List (PyData × PyData) → Prop
  | nil : RpK G [] []
  | cons {k : Key} {v : V} {d : PyData} {kvs : List (Key × V)} {es : List (PyData × PyData)} : Rp G v d → RpK G kvs es → RpK G ((k, v) :: kvs) ((keyD k, d) :: es)
inductive RpT (G : Hp) : List (List Key × V) → List (PyData × PyData) → Prop
  | nil : RpT G [] []
  | cons {k : List Key} {v : V} {d : PyData} {kvs : List (List Key × V)} {es : List (PyData × PyData)} : Rp G v d → RpT G kvs es → RpT G ((k, v) :: kvs) ((.tuple (k.map keyD), d) :: es)
end
/-- G' knows all that G knows -/
def Le (G G' : Hp) : Prop := ∀ a u, G a = some u → G' a = some u
theorem Le.refl (G : Hp) : Le G G := fun _ _ h => h
theorem Le.trans {G G' G2 : Hp} (a : Le G G') (b : Le G' G2) : Le G G2 := fun x u h => b x u (a x u h)
theorem Le.co {H H' : Hp} (h : Le H H') : Le (co H) (co H') := fun a u e => by
  unfold Pu.co at e ⊢
  cases q : H a with
  | none => rw [q] at e; cases e
  | some z => rw [h a z q]; rw [q] at e; exact e
mutual
theorem Rp.mono {G G' : Hp} (h : Le G G') : ∀ {v : V} {d : PyData}, Rp G v d → Rp G' v d
  | _, _, .non => .non
  | _, _, .bl b => .bl b
  | _, _, .int i => .int i
  | _, _, .str s => .str s
  | _, _, .lst e r => .lst (h _ _ e) (RpAll.mono h r)
  | _, _, .tup e r => .tup (h _ _ e) (RpAll.mono h r)
  | _, _, .dK e r => .dK (h _ _ e) (RpK.mono h r)
  | _, _, .dT e r => .dT (h _ _ e) (RpT.mono h r)
theorem RpAll.mono {G G' : Hp} (h : Le G G') : ∀ {vs : List V} {ds : List PyData}, RpAll G vs ds → RpAll G' vs ds
  | _, _, .nil => .nil
  | _, _, .cons a b => .cons (Rp.mono h a) (RpAll.mono h b)
theorem RpK.mono {G G' : Hp} (h : Le G G') : ∀ {vs : List (Key × V)} {ds : List (PyData × PyData)}, RpK G vs ds → RpK G' vs ds
  | _, _, .nil => .nil
  | _, _, .cons a b => .cons (Rp.mono h a) (RpK.mono h b)
theorem RpT.mono {G G' : Hp} (h : Le G G') : ∀ {vs : List (List Key × V)} {ds : List (PyData × PyData)}, RpT G vs ds → RpT G' vs ds
  | _, _, .nil => .nil
  | _, _, .cons a b => .cons (Rp.mono h a) (RpT.mono h b)
end
/-! flat data hangs on tuples alone -/
mutual
theorem Rp.flat {G G' : Hp} (h : ∀ a xs, G a = some (.tup xs) → G' a = some (.tup xs)) : ∀ {v : V} {d : PyData}, Rp G v d → flat d = true → Rp G' v d
  | _, _, .non, _ => .non
  | _, _, .bl b, _ => .bl b
  | _, _, .int i, _ => .int i
  | _, _, .str s, _ => .str s
  | _, _, .lst e r, f => by simp [Pu.flat] at f
  | _, _, .tup e r, f => .tup (h _ _ e) (RpAll.flat h r (by simpa [Pu.flat] using f))
  | _, _, .dK e r, f => by simp [Pu.flat] at f
  | _, _, .dT e r, f => by simp [Pu.flat] at f
theorem RpAll.flat {G G' : Hp} (h : ∀ a xs, G a = some (.tup xs) → G' a = some (.tup xs)) : ∀ {vs : List V} {ds : List PyData}, RpAll G vs ds → flats ds = true → RpAll G' vs ds
  | _, _, .nil, _ => .nil
  | _, _, .cons a b, f => by
    simp only [Pu.flats, Bool.and_eq_true] at f
    exact .cons (Rp.flat h a f.1) (RpAll.flat h b f.2)
end
theorem RpAll.length {G : Hp} : ∀ {vs : List V} {ds : List PyData}, RpAll G vs ds → vs.length = ds.length
  | _, _, .nil => rfl
  | _, _, .cons _ b => by rw [List.length_cons, List.length_cons, b.length]
theorem RpAll.get {G : Hp} : ∀ {vs : List V} {ds : List PyData} {i : Nat} {d : PyData}, RpAll G vs ds → ds[i]? = some d → ∃ v, vs[i]? = some v ∧ Rp G v d
  | _, _, _, _, .nil, h => by simp at h
  | _, _, 0, _, .cons a _, h => by
    have e := Option.some.inj h
    subst e
    exact ⟨_, rfl, a⟩
  | _, _, i + 1, _, .cons _ b, h => b.get (i := i) h
theorem RpAll.getV {G : Hp} : ∀ {vs : List V} {ds : List PyData} {i : Nat} {v : V}, RpAll G vs ds → vs[i]? = some v → ∃ d, ds[i]? = some d ∧ Rp G v d
  | _, _, _, _, .nil, h => by simp at h
  | _, _, 0, _, .cons a _, h => by
    have e := Option.some.inj h
    subst e
    exact ⟨_, rfl, a⟩
  | _, _, i + 1, _, .cons _ b, h => b.getV (i := i) h
theorem RpAll.append {G : Hp} : ∀ {vs ws : List V} {ds es : List PyData}, RpAll G vs ds → RpAll G ws es → RpAll G (vs ++ ws) (ds ++ es)
  | _, _, _, _, .nil, h => h
  | _, _, _, _, .cons a b, h => .cons a (b.append h)
theorem RpAll.set {G : Hp} {v : V} {d : PyData} (r : Rp G v d) : ∀ {vs : List V} {ds : List PyData} (i : Nat), RpAll G vs ds → RpAll G (vs.set i v) (ds.set i d)
  | _, _, _, .nil => .nil
  | _, _, 0, .cons _ b => .cons r b
  | _, _, i + 1, .cons a b => .cons a (RpAll.set r i b)
theorem RpAll.take {G : Hp} : ∀ {vs : List V} {ds : List PyData} (n : Nat), RpAll G vs ds → RpAll G (vs.take n) (ds.take n)
  | _, _, 0, _ => by simpa using RpAll.nil
  | _, _, n + 1, .nil => .nil
  | _, _, n + 1, .cons a b => .cons a (b.take n)
theorem RpAll.drop {G : Hp} : ∀ {vs : List V} {ds : List PyData} (n : Nat), RpAll G vs ds → RpAll G (vs.drop n) (ds.drop n)
  | _, _, 0, h => h
  | _, _, n + 1, .nil => .nil
  | _, _, n + 1, .cons a b => b.drop n
theorem RpAll.dropLast {G : Hp} {vs : List V} {ds : List PyData} (h : RpAll G vs ds) : RpAll G vs.dropLast ds.dropLast := by
  rw [List.dropLast_eq_take, List.dropLast_eq_take, h.length]
  exact h.take _
theorem RpAll.ints {G : Hp} : ∀ {vs : List V} {ns : List Int}, RpAll G vs (ns.map PyData.int) → vs = ns.map V.int
  | _, [], h => by cases h; rfl
  | _, n :: r, h => by
    cases h with
    | cons a b => cases a; rw [b.ints]; rfl
theorem RpAll.of_ints {G : Hp} : ∀ (ns : List Int), RpAll G (ns.map V.int) (ns.map PyData.int)
  | [] => .nil
  | n :: r => .cons (.int n) (RpAll.of_ints r)

/-! ### the slots of a frame -/
inductive Slot where
  /-- nothing is known of it -/
  | un
  /-- data that nobody changes -/
  | im (d : PyData)
  /-- a list of this frame's own, that it may change; a dict likewise -/
  | ol (xs : List PyData) | od (kvs : List (PyData × PyData))
  /-- the source of draws: its list, the list of its cells -/
  | rng (a c : Addr)
  /-- a caught exception: its object, its fields -/
  | ex (a : Addr) (dd : Option Addr) (fs : List (Str × V))
  /-- an object of an own class, its fields -/
  | ob (cls : Addr) (fs : List (Str × PyData))
def isMut : Slot → Bool
  | .rng _ _ => true
  | .ob _ _ => true
  | _ => false
abbrev Slots := List Slot
abbrev Ow := Addr → Option (Nat × Bool)
def mutO : Option (Nat × Bool) → Bool
  | some (_, b) => b
  | none => false
/-- what stands still: all but the hidden (D0) and the frame's own -/
def vw (D0 : Addr → Bool) (o : Ow) (C : Hp) : Hp := fun a => if (D0 a || (o a).isSome) = true then none else C a
/-- what may be read: all but the hidden and the sources of draws -/
def vt (D0 : Addr → Bool) (o : Ow) (C : Hp) : Hp := fun a => if (D0 a || mutO (o a)) = true then none else C a
theorem vw_le_vt {D0 : Addr → Bool} {o : Ow} {C : Hp} : Le (vw D0 o C) (vt D0 o C) := fun a u h => by
  unfold vw at h
  unfold vt
  split at h
  · cases h
  · rename_i hn
    rw [if_neg]
    · exact h
    · intro z
      apply hn
      rw [Bool.or_eq_true] at z ⊢
      rcases z with z | z
      · exact .inl z
      · refine .inr ?_
        cases e : o a with
        | none => rw [e] at z; cases z
        | some _ => rfl
theorem vt_le {D0 : Addr → Bool} {o : Ow} {C : Hp} : Le (vt D0 o C) C := fun a u h => by
  unfold vt at h
  split at h
  · cases h
  · exact h
theorem vw_le {D0 : Addr → Bool} {o : Ow} {C : Hp} : Le (vw D0 o C) C := vw_le_vt.trans vt_le
theorem vw_at {D0 : Addr → Bool} {o : Ow} {C : Hp} {a : Addr} {u : HO} (h1 : D0 a = false) (h2 : o a = none) (h : C a = some u) : vw D0 o C a = some u := by
  unfold vw
  rw [h1, h2]
  exact h

/-- the fields of an object -/
inductive RpF (G : Hp) : List (Str × V) → List (Str × PyData) → Prop
  | nil : RpF G [] []
  | cons {x : Str} {v : V} {d : PyData} {fs : List (Str × V)} {es : List (Str × PyData)} : Rp G v d → RpF G fs es → RpF G ((x, v) :: fs) ((x, d) :: es)
theorem RpF.mono {G G' : Hp} (h : Le G G') : ∀ {fs : List (Str × V)} {es : List (Str × PyData)}, RpF G fs es → RpF G' fs es
  | _, _, .nil => .nil
  | _, _, .cons a b => .cons (Rp.mono h a) (RpF.mono h b)
def SlotOk (D0 : Addr → Bool) (C : Hp) (o : Ow) (i : Nat) (x : Option (Option V)) : Slot → Prop
  | .un => True
  | .im d => ∃ v, x = some (some v) ∧ Rp (vw D0 o C) v d
  | .ol xs => ∃ a vs, x = some (some (.ref a)) ∧ o a = some (i, false) ∧ C a = some (.lst vs) ∧ RpAll (vw D0 o C) vs xs
  | .od es => ∃ a, x = some (some (.ref a)) ∧ o a = some (i, false) ∧ ((∃ kvs, C a = some (.dK kvs) ∧ RpK (vw D0 o C) kvs es) ∨ ∃ kvs, C a = some (.dT kvs) ∧ RpT (vw D0 o C) kvs es)
  | .rng a c => ∃ (st ix : Int) (ns : List Int), x = some (some (.ref a)) ∧ o a = some (i, true) ∧ o c = some (i, true) ∧ a ≠ c ∧ C a = some (.lst [.int st, .ref c, .int ix]) ∧ C c = some (.lst (ns.map V.int)) ∧ ns.length ≤ 63
  | .ex a dd fs => x = some (some (.ref a)) ∧ ∀ q, dd = some q → vw D0 o C q = some (.xd fs)
  | .ob cls fs => ∃ a dx vs, x = some (some (.ref a)) ∧ o a = some (i, true) ∧ o dx = some (i, true) ∧ a ≠ dx ∧ C a = some (.ins cls dx vs) ∧ C dx = some (.own a) ∧ RpF (vw D0 o C) vs fs

/-- a slot's fact where what it stands on stands -/
theorem SlotOk.move {D0 D0' : Addr → Bool} {C C' : Hp} {o o' : Ow} {i : Nat} {x : Option (Option V)} {s : Slot} (h : SlotOk D0 C o i x s) (hv : Le (vw D0 o C) (vw D0' o' C'))
    (ho : ∀ a b u, o a = some (i, b) → C a = some u → o' a = some (i, b) ∧ C' a = some u) : SlotOk D0' C' o' i x s := by
  cases s with
  | un => trivial
  | im d => obtain ⟨v, h1, h2⟩ := h; exact ⟨v, h1, h2.mono hv⟩
  | ol xs => obtain ⟨a, vs, h1, h2, h3, h4⟩ := h; exact ⟨a, vs, h1, (ho _ _ _ h2 h3).1, (ho _ _ _ h2 h3).2, h4.mono hv⟩
  | od es =>
    obtain ⟨a, h1, h2, h3⟩ := h
    rcases h3 with ⟨kvs, h3, h4⟩ | ⟨kvs, h3, h4⟩
    · exact ⟨a, h1, (ho _ _ _ h2 h3).1, .inl ⟨kvs, (ho _ _ _ h2 h3).2, h4.mono hv⟩⟩
    · exact ⟨a, h1, (ho _ _ _ h2 h3).1, .inr ⟨kvs, (ho _ _ _ h2 h3).2, h4.mono hv⟩⟩
  | rng a c => obtain ⟨st, ix, ns, h1, h2, h3, h4, h5, h6, h7⟩ := h; exact ⟨st, ix, ns, h1, (ho _ _ _ h2 h5).1, (ho _ _ _ h3 h6).1, h4, (ho _ _ _ h2 h5).2, (ho _ _ _ h3 h6).2, h7⟩
  | ex a dd fs => exact ⟨h.1, fun q hq => hv _ _ (h.2 q hq)⟩
  | ob cls fs => obtain ⟨a, dx, vs, h1, h2, h3, h4, h5, h6, h7⟩ := h; exact ⟨a, dx, vs, h1, (ho _ _ _ h2 h5).1, (ho _ _ _ h3 h6).1, h4, (ho _ _ _ h2 h5).2, (ho _ _ _ h3 h6).2, h7.mono hv⟩

structure Env (D0 : Addr → Bool) (S : Slots) (σ : St) (C : Hp) (o : Ow) : Prop where
  len : σ.length = S.length
  live : ∀ a p, o a = some p → D0 a = false ∧ ∃ u, C a = some u ∧ isTup u = false
  dead : ∀ a, D0 a = true → ∃ u, C a = some u ∧ isTup u = false
  sl : ∀ (i : Nat) (s : Slot), S[i]? = some s → SlotOk D0 C o i (σ[i]?) s

/-- behind an expression: all but the sources of draws stands as it stood -/
def XE (o : Ow) (H H' : Hp) : Prop := ∀ a u, mutO (o a) = false → H a = some u → H' a = some u
theorem XE.refl (o : Ow) (H : Hp) : XE o H H := fun _ _ _ h => h
theorem XE.trans {o : Ow} {H H1 H2 : Hp} (a : XE o H H1) (b : XE o H1 H2) : XE o H H2 := fun x u m h => b x u m (a x u m h)
theorem XE.of {o : Ow} {H H' : Hp} (h : Le H H') : XE o H H' := fun a u _ e => h a u e
theorem XE.vt {D0 : Addr → Bool} {o : Ow} {H H' : Hp} (h : XE o H H') : Le (vt D0 o (co H)) (vt D0 o (co H')) := fun a u e => by
  unfold Pu.vt at e ⊢
  split at e
  · cases e
  · rename_i hn
    rw [if_neg hn]
    have hm : mutO (o a) = false := by
      cases q : mutO (o a) with
      | false => rfl
      | true => exact absurd (by rw [q, Bool.or_true]) hn
    unfold co at e ⊢
    cases q : H a with
    | none => rw [q] at e; cases e
    | some z => rw [h a z hm q]; rw [q] at e; exact e
theorem XE.vw {D0 : Addr → Bool} {o : Ow} {H H' : Hp} (h : XE o H H') : Le (vw D0 o (co H)) (vw D0 o (co H')) := fun a u e => by
  unfold Pu.vw at e ⊢
  split at e
  · cases e
  · rename_i hn
    rw [if_neg hn]
    have hm : mutO (o a) = false := by
      cases q : o a with
      | none => rfl
      | some p => exact absurd (by rw [q]; simp) hn
    unfold co at e ⊢
    cases q : H a with
    | none => rw [q] at e; cases e
    | some z => rw [h a z hm q]; rw [q] at e; exact e
/-- behind a statement: what was nobody's stands as it stood -/
def Fr (o : Ow) (H : Hp) (o' : Ow) (H' : Hp) : Prop := ∀ a u, o a = none → H a = some u → H' a = some u ∧ o' a = none
theorem Fr.refl (o : Ow) (H : Hp) : Fr o H o H := fun _ _ n h => ⟨h, n⟩
theorem Fr.trans {o o1 o2 : Ow} {H H1 H2 : Hp} (a : Fr o H o1 H1) (b : Fr o1 H1 o2 H2) : Fr o H o2 H2 := fun x u n h => let ⟨h1, n1⟩ := a x u n h; b x u n1 h1
theorem XE.fr {o : Ow} {H H' : Hp} (h : XE o H H') : Fr o H o H' := fun a u n e => ⟨h a u (by rw [n]; rfl) e, n⟩
/-- a value stands for d; c: it may be kept (nobody changes what it hangs on) -/
def Val (D0 : Addr → Bool) (o : Ow) (H : Hp) (v : V) (d : PyData) (c : Prop) : Prop := Rp (vt D0 o (co H)) v d ∧ (c → Rp (vw D0 o (co H)) v d)
theorem Val.mono {D0 : Addr → Bool} {o : Ow} {H H' : Hp} {v : V} {d : PyData} {c : Prop} (h : Val D0 o H v d c) (x : XE o H H') : Val D0 o H' v d c := ⟨h.1.mono x.vt, fun hc => (h.2 hc).mono x.vw⟩
theorem Val.of {D0 : Addr → Bool} {o : Ow} {H : Hp} {v : V} {d : PyData} (h : Rp (vw D0 o (co H)) v d) : Val D0 o H v d True := ⟨h.mono vw_le_vt, fun _ => h⟩
theorem Val.imp {D0 : Addr → Bool} {o : Ow} {H : Hp} {v : V} {d : PyData} {c c' : Prop} (h : Val D0 o H v d c) (k : c' → c) : Val D0 o H v d c' := ⟨h.1, fun hc => h.2 (k hc)⟩
/-- flat data may be kept -/
theorem Env.vtw {D0 : Addr → Bool} {S : Slots} {σ : St} {H : Hp} {o : Ow} (E : Env D0 S σ (co H) o) : ∀ a xs, vt D0 o (co H) a = some (.tup xs) → vw D0 o (co H) a = some (.tup xs) := fun a xs e => by
  have e2 := vt_le a _ e
  refine vw_at ?_ ?_ e2
  · cases q : D0 a with
    | false => rfl
    | true =>
      obtain ⟨u, h1, h2⟩ := E.dead a q
      rw [e2] at h1
      cases h1
      cases h2
  · cases q : o a with
    | none => rfl
    | some p =>
      obtain ⟨_, u, h1, h2⟩ := E.live a p q
      rw [e2] at h1
      cases h1
      cases h2
theorem Val.flat {D0 : Addr → Bool} {S : Slots} {σ : St} {H : Hp} {o : Ow} {v : V} {d : PyData} {c : Prop} (E : Env D0 S σ (co H) o) (h : Val D0 o H v d c) : Val D0 o H v d (c ∨ flat d = true) :=
  ⟨h.1, fun z => z.elim h.2 fun f => h.1.flat E.vtw f⟩

/-- the environment behind an expression that changed no source of draws -/
theorem Env.xe {D0 : Addr → Bool} {S : Slots} {σ : St} {H H' : Hp} {o : Ow} (E : Env D0 S σ (co H) o) (h : Le H H') : Env D0 S σ (co H') o := by
  have hc : Le (co H) (co H') := h.co
  have hw : Le (vw D0 o (co H)) (vw D0 o (co H')) := (XE.of h).vw
  refine ⟨E.len, fun a p e => ?_, fun a e => ?_, fun i s e => ?_⟩
  · obtain ⟨h1, u, h2, h3⟩ := E.live a p e
    exact ⟨h1, u, hc a u h2, h3⟩
  · obtain ⟨u, h2, h3⟩ := E.dead a e
    exact ⟨u, hc a u h2, h3⟩
  · exact (E.sl i s e).move hw fun a b u _ h => ⟨‹_›, hc a u h⟩
theorem Le.new {H : Hp} {p : Addr} {u : HO} (h : H p = none) : Le H (upd H p u) := fun a x e => by
  rw [upd_ne (ne_of_none e h)]
  exact e
/-- a new object's address is nobody's -/
theorem Env.new {D0 : Addr → Bool} {S : Slots} {σ : St} {H : Hp} {o : Ow} {p : Addr} (E : Env D0 S σ (co H) o) (h : H p = none) : D0 p = false ∧ o p = none := by
  have h' : co H p = none := co_none.mpr h
  constructor
  · cases q : D0 p with
    | false => rfl
    | true => obtain ⟨u, h1, _⟩ := E.dead p q; rw [h'] at h1; cases h1
  · cases q : o p with
    | none => rfl
    | some r => obtain ⟨_, u, h1, _⟩ := E.live p r q; rw [h'] at h1; cases h1
end Pu

namespace Pu
open PySem L2

/-! ### the judgements -/
/-- an exception: its class, what it carries -/
abbrev XC := Str × List (Str × V)
def XOk (mg : Str → Option Value) (H : Hp) (x : XC) (cls : Value) (d : Option Addr) : Prop := (∃ C, mg x.1 = some (.ref C) ∧ cls = .ref C) ∧ ((x.2 = [] ∧ d = none) ∨ ∃ dd, d = some dd ∧ H dd = some (.xd x.2))
/-- the module's names, what is wanted of an exception -/
structure WM where
  mg : Str → Option Value
  w : WX
abbrev EK := XC → Slots → Prop
abbrev WEx := Slots → (PyData → Prop → Slots → Prop) → EK → Prop
abbrev WLs := Slots → (List PyData → Prop → Slots → Prop) → EK → Prop
abbrev WTx := Slots → (Bool → Slots → Prop) → EK → Prop
/-- the way out by an exception -/
def Xw (W : WM) (D0 : Addr → Bool) (σ : St) (o : Ow) (H : Hp) (B : EK) : Prop :=
  ∀ x S' cls dd H', B x S' → Env D0 S' σ (co H') o → XE o H H' → XOk W.mg H' x cls dd → W.w cls dd σ H'
theorem Xw.on {W : WM} {D0 : Addr → Bool} {σ : St} {o : Ow} {H H1 : Hp} {B : EK} (h : Xw W D0 σ o H B) (x : XE o H H1) : Xw W D0 σ o H1 B :=
  fun a b c d e f g i j => h a b c d e f g (x.trans i) j
def Vals' (D0 : Addr → Bool) (o : Ow) (H : Hp) (vs : List V) (ds : List PyData) (c : Prop) : Prop := RpAll (vt D0 o (co H)) vs ds ∧ (c → RpAll (vw D0 o (co H)) vs ds)
def Snd (W : WM) (t : TE) (w : WEx) : Prop := ∀ (D0 : Addr → Bool) (S : Slots) (σ : St) (H : Hp) (o : Ow) (A : PyData → Prop → Slots → Prop) (B : EK) (Q : VK), Env D0 S σ (co H) o → w S A B →
  (∀ d c S' v H', A d c S' → Env D0 S' σ (co H') o → XE o H H' → Val D0 o H' v d c → Q v H') → Xw W D0 σ o H B → t σ H Q
def SndA (W : WM) (t : TA) (n : Nat) (w : WLs) : Prop := ∀ (D0 : Addr → Bool) (S : Slots) (σ : St) (H : Hp) (o : Ow) (A : List PyData → Prop → Slots → Prop) (B : EK) (Q : List V → Hp → Prop), Env D0 S σ (co H) o → w S A B →
  (∀ ds c S' vs H', ds.length = n → A ds c S' → Env D0 S' σ (co H') o → XE o H H' → Vals' D0 o H' vs ds c → Q vs H') → Xw W D0 σ o H B → t σ H Q
def SndT (W : WM) (t : TT) (w : WTx) : Prop := ∀ (D0 : Addr → Bool) (S : Slots) (σ : St) (H : Hp) (o : Ow) (A : Bool → Slots → Prop) (B : EK) (Q : Bool → Hp → Prop), Env D0 S σ (co H) o → w S A B →
  (∀ b S' H', A b S' → Env D0 S' σ (co H') o → XE o H H' → Q b H') → Xw W D0 σ o H B → t σ H Q
/-- a new list, that nothing else hangs on -/
def SndO (W : WM) (t : TE) (w : WLs) : Prop := ∀ (D0 : Addr → Bool) (S : Slots) (σ : St) (H : Hp) (o : Ow) (A : List PyData → Prop → Slots → Prop) (B : EK) (Q : VK), Env D0 S σ (co H) o → w S A B →
  (∀ ds c S' vs p H1, A ds c S' → Env D0 S' σ (co H1) o → XE o H H1 → H1 p = none → Vals' D0 o H1 vs ds c → Q (.ref p) (upd H1 p (.lst vs))) → Xw W D0 σ o H B → t σ H Q
structure SE (X : Cx) (W : WM) (e : Expr) (w : WEx) : Prop where
  ex : ∃ t, PE X e t ∧ Snd W t w
structure SO (X : Cx) (W : WM) (e : Expr) (w : WLs) : Prop where
  ex : ∃ t, PE X e t ∧ SndO W t w
structure ST (X : Cx) (W : WM) (e : Expr) (w : WTx) : Prop where
  ex : ∃ t, PT X e t ∧ SndT W t w
structure SA (X : Cx) (W : WM) (es : List Expr) (w : WLs) : Prop where
  ex : ∃ t, PA X es t ∧ SndA W t es.length w
/-- where one stands -/
structure At (X : Cx) (W : WM) (k : Nat) : Prop where
  room : Room k X.A
  calm : X.calm = true
  tx : Takes X W.w
  mq : W.mg = X.mg
  nd : X.N.Nodup
  po : PassesOwn (model X.prog X.w) X.A X.env X.xe
theorem At.tk {X : Cx} {W : WM} {k : Nat} (a : At X W k) : ∀ σ, PassesAt (L2.CX X.prog X.w) X σ (WE W.w σ) := fun σ => passAt a.tx σ
theorem At.u64 {X : Cx} {W : WM} {k : Nat} (a : At X W k) : X.A.units + 64 < cLine := a.room.units
theorem At.u65 {X : Cx} {W : WM} {k : Nat} (a : At X W k) : X.A.units + 65 < cLine := by have := a.room.un; omega
theorem At.u1 {X : Cx} {W : WM} {k : Nat} (a : At X W k) : X.A.units + 1 < cLine := by have := a.room.un; omega

section
variable {X : Cx} {W : WM} {k : Nat} {pos : Pos}

/-! ### names and constants -/
def wV (i : Nat) : WEx := fun S A _ => match S[i]? with
  | some (.im d) => A d True S
  | some (.ol xs) => A (.list xs) False S
  | some (.od es) => A (.dict es) False S
  | _ => False
def wC (d : PyData) : WEx := fun S A _ => A d True S
theorem snd_var {i : Nat} : Snd W (tVar i) (wV i) := by
  intro D0 S σ H o A B Q E hw k kx
  unfold wV at hw
  split at hw
  · rename_i d hs
    obtain ⟨v, h1, h2⟩ := E.sl i _ hs
    exact ⟨v, h1, k _ _ _ v H hw E (XE.refl o H) (Val.of h2)⟩
  · rename_i xs hs
    obtain ⟨a, vs, h1, h2, h3, h4⟩ := E.sl i _ hs
    refine ⟨.ref a, h1, k _ _ _ _ H hw E (XE.refl o H) ⟨.lst ?_ (h4.mono vw_le_vt), fun z => z.elim⟩⟩
    unfold vt
    rw [(E.live a _ h2).1, h2]
    exact h3
  · rename_i es hs
    obtain ⟨a, h1, h2, h3⟩ := E.sl i _ hs
    refine ⟨.ref a, h1, k _ _ _ _ H hw E (XE.refl o H) ⟨?_, fun z => z.elim⟩⟩
    have hv : ∀ u, co H a = some u → vt D0 o (co H) a = some u := fun u e => by
      unfold vt
      rw [(E.live a _ h2).1, h2]
      exact e
    rcases h3 with ⟨kvs, h3, h4⟩ | ⟨kvs, h3, h4⟩
    · exact .dK (hv _ h3) (h4.mono vw_le_vt)
    · exact .dT (hv _ h3) (h4.mono vw_le_vt)
  · exact hw.elim
theorem snd_c {v : V} {d : PyData} (h : ∀ G, Rp G v d) : Snd W (tC v) (wC d) := fun D0 S σ H o A B Q E hw k kx => k _ _ _ v H hw E (XE.refl o H) (Val.of (h _))
theorem se_v (i : Nat) {x : Str} {p : Pos} (hN : X.N[i]? = some x := by rfl) (hv : Vis X.env.scope x := by first | exact Or.inl rfl | exact Or.inr (Or.inl rfl) | exact Or.inr (Or.inr rfl)) (hd : (x == ("__debug__" : Str)) = false := by decide)
    (hcd : (x == ("__classdict__" : Str)) = false := by decide) : SE X W (.Name x p) (wV i) := ⟨_, pe_var hN hv hd hcd, snd_var⟩
theorem se_int {i : Int} {j p} : SE X W (.Constant (.int i) j p) (wC (.int i)) := ⟨_, pe_int, snd_c fun _ => .int i⟩
theorem se_bl {b : Bool} {j p} : SE X W (.Constant (.bool b) j p) (wC (.bool b)) := ⟨_, pe_bl, snd_c fun _ => .bl b⟩
theorem se_non {j p} : SE X W (.Constant .none j p) (wC .none) := ⟨_, pe_non, snd_c fun _ => .non⟩
theorem se_str {x : Str} {j p} : SE X W (.Constant (.str x) j p) (wC (.str x)) := ⟨_, pe_str, snd_c fun _ => .str x⟩
/-- a module's number -/
theorem se_gi {x : Str} {i : Int} {t : Tok} {p : Pos} (hm : X.mg x = some (.int i t)) (hg : Gl X x := by rfl) (hd : (x == ("__debug__" : Str)) = false := by decide) : SE X W (.Name x p) (wC (.int i)) := ⟨_, pe_glob hg hm (v := .int i) ⟨t, rfl⟩ hd, snd_c fun _ => .int i⟩

/-! ### operators -/
/-- what an operator makes of two data -/
abbrev R2D := PyData → Prop → PyData → Prop → (PyData → Prop → Prop) → Prop
structure Op2 (X : Cx) (f : Value → Value → Sem Value) (g : R2D) : Prop where
  ex : ∃ r : R2, OpR X f r ∧ ∀ (D0 : Addr → Bool) (S : Slots) (σ : St) (o : Ow) (H : Hp) (x y : V) (dx dy : PyData) (cx cy : Prop) (K : PyData → Prop → Prop) (Q : VK), Env D0 S σ (co H) o → Val D0 o H x dx cx → Val D0 o H y dy cy → g dx cx dy cy K →
    (∀ z dz cz H', K dz cz → Le H H' → Val D0 o H' z dz cz → Q z H') → r x y H Q
def wOp (g : R2D) (wa wb : WEx) : WEx := fun S A B => wa S (fun x cx S1 => wb S1 (fun y cy S2 => g x cx y cy fun z cz => A z cz S2) B) B
theorem snd_op {g : R2D} {ta tb : TE} {wa wb : WEx} {r : R2} (ha : Snd W ta wa) (hb : Snd W tb wb) (hr : ∀ (D0 : Addr → Bool) (S : Slots) (σ : St) (o : Ow) (H : Hp) (x y : V) (dx dy : PyData) (cx cy : Prop) (K : PyData → Prop → Prop) (Q : VK), Env D0 S σ (co H) o → Val D0 o H x dx cx → Val D0 o H y dy cy → g dx cx dy cy K →
    (∀ z dz cz H', K dz cz → Le H H' → Val D0 o H' z dz cz → Q z H') → r x y H Q) : Snd W (tOp r ta tb) (wOp g wa wb) := by
  intro D0 S σ H o A B Q E hw k kx
  refine ha D0 S σ H o _ B _ E hw (fun d c S1 v H1 h1 E1 x1 V1 => ?_) kx
  refine hb D0 S1 σ H1 o _ B _ E1 h1 (fun d2 c2 S2 v2 H2 h2 E2 x2 V2 => ?_) (kx.on x1)
  exact hr D0 S2 σ o H2 v v2 d d2 c c2 _ Q E2 (V1.mono x2) V2 h2 fun z dz cz H' hz le V => k dz cz S2 z H' hz (E2.xe le) ((x1.trans x2).trans (XE.of le)) V
theorem se_op {op : Operator} {g : R2D} {a b : Expr} {wa wb : WEx} (ho : Op2 X (binaryOp op) g) (ha : SE X W a wa) (hb : SE X W b wb) : SE X W (.BinOp a op b pos) (wOp g wa wb) := by
  obtain ⟨ta, pa, sa⟩ := ha.ex
  obtain ⟨tb, pb, sb⟩ := hb.ex
  obtain ⟨r, hr, h⟩ := ho.ex
  exact ⟨_, pe_op hr pa pb, snd_op sa sb h⟩
theorem se_cmp {op : CmpOp} {g : R2D} {a b : Expr} {wa wb : WEx} (ho : Op2 X (compareOp op) g) (ha : SE X W a wa) (hb : SE X W b wb) (hm : behindInMarks op b = false := by first | exact nobehind _ (by decide) (by decide) | rfl) : SE X W (.Compare a [op] [b] pos) (wOp g wa wb) := by
  obtain ⟨ta, pa, sa⟩ := ha.ex
  obtain ⟨tb, pb, sb⟩ := hb.ex
  obtain ⟨r, hr, h⟩ := ho.ex
  exact ⟨_, pe_cmpR hr pa pb hm, snd_op sa sb h⟩
def bl? : PyData → (Bool → Prop) → Prop
  | .bool b, K => K b
  | _, _ => False
theorem bl_rp {G : Hp} {v : V} {d : PyData} {K : Bool → Prop} (r : Rp G v d) (h : bl? d K) : ∃ b, v = .bl b ∧ K b := by
  cases r with
  | bl b => exact ⟨b, rfl, h⟩
  | _ => exact h.elim
/-- a op1 b op2 c -/
def wChain (g g' : R2D) (wa wb wc : WEx) : WEx := fun S A B => wa S (fun x cx S1 => wb S1 (fun y cy S2 => g x cx y cy fun z _ => bl? z fun b => if b = true then wc S2 (fun u cu S3 => g' y cy u cu fun z' cz' => A z' cz' S3) B else A (.bool false) True S2) B) B
theorem se_chain {op op' : CmpOp} {g g' : R2D} {a b c : Expr} {wa wb wc : WEx} (ho : Op2 X (compareOp op) g) (ho' : Op2 X (compareOp op') g') (ha : SE X W a wa) (hb : SE X W b wb) (hc : SE X W c wc)
    (hm : lastMarks [op, op'] [b, c] = false := by with_unfolding_all rfl) : SE X W (.Compare a [op, op'] [b, c] pos) (wChain g g' wa wb wc) := by
  obtain ⟨ta, pa, sa⟩ := ha.ex
  obtain ⟨tb, pb, sb⟩ := hb.ex
  obtain ⟨tc, pc, sc⟩ := hc.ex
  obtain ⟨r, hr, h⟩ := ho.ex
  obtain ⟨r', hr', h'⟩ := ho'.ex
  refine ⟨_, pe_chain hr hr' pa pb pc hm, ?_⟩
  intro D0 S σ H o A B Q E hw k kx
  refine sa D0 S σ H o _ B _ E hw (fun d c S1 v H1 h1 E1 x1 V1 => ?_) kx
  refine sb D0 S1 σ H1 o _ B _ E1 h1 (fun d2 c2 S2 v2 H2 h2 E2 x2 V2 => ?_) (kx.on x1)
  refine h D0 S2 σ o H2 v v2 d d2 c c2 _ _ E2 (V1.mono x2) V2 h2 fun z dz cz H3 hz le V => ?_
  have x3 := (x1.trans x2).trans (XE.of le)
  have E3 := E2.xe le
  have V2' := V2.mono (XE.of le)
  obtain ⟨b, rfl, hz⟩ := bl_rp V.1 hz
  refine ⟨b, rfl, ?_⟩
  cases b with
  | true =>
    rw [if_pos rfl] at hz ⊢
    refine sc D0 S2 σ H3 o _ B _ E3 hz (fun d4 c4 S4 v4 H4 h4 E4 x4 V4 => ?_) (kx.on x3)
    exact h' D0 S4 σ o H4 v2 v4 d2 d4 c2 c4 _ Q E4 (V2'.mono x4) V4 h4 fun z' dz' cz' H' hz' le' V' => k dz' cz' S4 z' H' hz' (E4.xe le') ((x3.trans x4).trans (XE.of le')) V'
  | false =>
    rw [if_neg Bool.false_ne_true] at hz ⊢
    exact k _ _ _ _ H3 hz E3 x3 (Val.of (.bl false))

/-- on two ints -/
def gI (C : Int → Int → Prop) (f : Int → Int → PyData) : R2D := fun x _ y _ K => match x, y with
  | .int i, .int j => C i j ∧ K (f i j) True
  | _, _ => False
theorem op2_I {f : Value → Value → Sem Value} {C : Int → Int → Prop} {gv : Int → Int → V} {gd : Int → Int → PyData} (h : OpR X f (rI C gv)) (hg : ∀ i j G, Rp G (gv i j) (gd i j)) : Op2 X f (gI C gd) := by
  refine ⟨_, h, ?_⟩
  intro D0 S σ o H x y dx dy cx cy K Q E Vx Vy hg' k
  unfold gI at hg'
  split at hg'
  · cases Vx.1
    cases Vy.1
    exact ⟨_, _, rfl, rfl, hg'.1, k _ _ _ H hg'.2 (Le.refl H) (Val.of (hg _ _ _))⟩
  · exact hg'.elim
theorem op2_I0 {f : Value → Value → Sem Value} {gv : Int → Int → V} {gd : Int → Int → PyData} (h : OpR X f (rI0 gv)) (hg : ∀ i j G, Rp G (gv i j) (gd i j)) : Op2 X f (gI (fun _ _ => True) gd) := by
  refine ⟨_, h, ?_⟩
  intro D0 S σ o H x y dx dy cx cy K Q E Vx Vy hg' k
  unfold gI at hg'
  split at hg'
  · cases Vx.1
    cases Vy.1
    exact ⟨_, _, rfl, rfl, k _ _ _ H hg'.2 (Le.refl H) (Val.of (hg _ _ _))⟩
  · exact hg'.elim
def gSub : R2D := gI (fun _ _ => True) fun i j => .int (i - j)
def gMul : R2D := gI CMulW fun i j => .int (i * j)
def gMulS : R2D := gI CMul fun i j => .int (i * j)
def gDiv : R2D := gI CDivW fun i j => .int (i / j)
def gMod : R2D := gI (fun _ j => j ≠ 0) fun i j => .int (i.fmod j)
def gPow : R2D := gI CPow fun i j => .int (i ^ j.toNat)
def gLt : R2D := gI (fun _ _ => True) fun i j => .bool (decide (i < j))
def gLe : R2D := gI (fun _ _ => True) fun i j => .bool (decide (i ≤ j))
def gGt : R2D := gI (fun _ _ => True) fun i j => .bool (decide (j < i))
def gGe : R2D := gI (fun _ _ => True) fun i j => .bool (decide (j ≤ i))
theorem o_sub : Op2 X (binaryOp .Sub) gSub := op2_I0 op_sub fun _ _ _ => .int _
theorem o_mul : Op2 X (binaryOp .Mult) gMul := op2_I op_mulW fun _ _ _ => .int _
theorem o_mulS : Op2 X (binaryOp .Mult) gMulS := op2_I op_mul fun _ _ _ => .int _
theorem o_div : Op2 X (binaryOp .FloorDiv) gDiv := op2_I op_fdivW fun _ _ _ => .int _
theorem o_mod : Op2 X (binaryOp .Mod) gMod := op2_I op_modN fun _ _ _ => .int _
theorem o_pow : Op2 X (binaryOp .Pow) gPow := op2_I op_pow fun _ _ _ => .int _
theorem o_lt : Op2 X (compareOp .Lt) gLt := op2_I0 op_lt fun _ _ _ => .bl _
theorem o_le : Op2 X (compareOp .LtE) gLe := op2_I0 op_le fun _ _ _ => .bl _
theorem o_gt : Op2 X (compareOp .Gt) gGt := op2_I0 op_gt fun _ _ _ => .bl _
theorem o_ge : Op2 X (compareOp .GtE) gGe := op2_I0 op_ge fun _ _ _ => .bl _

/-! sums: ints, lists, tuples, texts -/
def gAdd : R2D := fun x cx y cy K => match x, y with
  | .int i, .int j => K (.int (i + j)) True
  | .list xs, .list ys => xs.length + ys.length ≤ sizeLine ∧ K (.list (xs ++ ys)) ((cx ∨ flats xs = true) ∧ (cy ∨ flats ys = true))
  | .tuple xs, .tuple ys => xs.length + ys.length ≤ sizeLine ∧ K (.tuple (xs ++ ys)) ((cx ∨ flats xs = true) ∧ (cy ∨ flats ys = true))
  | .str s, .str t => s.length + t.length ≤ sizeLine ∧ K (.str (s ++ t)) True
  | _, _ => False
theorem OpR.or {f : Value → Value → Sem Value} {r1 r2 : R2} (h1 : OpR X f r1) (h2 : OpR X f r2) : OpR X f (fun x y H Q => r1 x y H Q ∨ r2 x y H Q) := by
  intro pins s σ H x y v u Q I rx ry h
  rcases h with h | h
  · exact h1 pins s σ H x y v u Q I rx ry h
  · exact h2 pins s σ H x y v u Q I rx ry h
theorem rp_lst {G : Hp} {v : V} {ds : List PyData} (h : Rp G v (.list ds)) : ∃ a vs, v = .ref a ∧ G a = some (.lst vs) ∧ RpAll G vs ds := by
  cases h with
  | lst e r => exact ⟨_, _, rfl, e, r⟩
theorem rp_tup {G : Hp} {v : V} {ds : List PyData} (h : Rp G v (.tuple ds)) : ∃ a vs, v = .ref a ∧ G a = some (.tup vs) ∧ RpAll G vs ds := by
  cases h with
  | tup e r => exact ⟨_, _, rfl, e, r⟩
/-- a list's items, as they may be kept -/
theorem Val.items {D0 : Addr → Bool} {S : Slots} {σ : St} {H : Hp} {o : Ow} {v : V} {ds : List PyData} {c : Prop} (E : Env D0 S σ (co H) o) (h : Val D0 o H v (.list ds) c) :
    ∃ a vs, v = .ref a ∧ H a = some (.lst vs) ∧ RpAll (vt D0 o (co H)) vs ds ∧ (c ∨ flats ds = true → RpAll (vw D0 o (co H)) vs ds) := by
  obtain ⟨a, vs, rfl, e, r⟩ := rp_lst h.1
  have e' := co_lst (vt_le _ _ e)
  refine ⟨a, vs, rfl, e', r, fun z => ?_⟩
  rcases z with z | z
  · obtain ⟨b, ws, eb, e2, r2⟩ := rp_lst (h.2 z)
    cases eb
    have e3 := co_lst (vw_le _ _ e2)
    rw [e'] at e3
    cases e3
    exact r2
  · exact r.flat E.vtw z
theorem Val.titems {D0 : Addr → Bool} {S : Slots} {σ : St} {H : Hp} {o : Ow} {v : V} {ds : List PyData} {c : Prop} (E : Env D0 S σ (co H) o) (h : Val D0 o H v (.tuple ds) c) :
    ∃ a vs, v = .ref a ∧ H a = some (.tup vs) ∧ RpAll (vt D0 o (co H)) vs ds ∧ (c ∨ flats ds = true → RpAll (vw D0 o (co H)) vs ds) := by
  obtain ⟨a, vs, rfl, e, r⟩ := rp_tup h.1
  have e' := co_tup (vt_le _ _ e)
  refine ⟨a, vs, rfl, e', r, fun z => ?_⟩
  rcases z with z | z
  · obtain ⟨b, ws, eb, e2, r2⟩ := rp_tup (h.2 z)
    cases eb
    have e3 := co_tup (vw_le _ _ e2)
    rw [e'] at e3
    cases e3
    exact r2
  · exact r.flat E.vtw z
theorem vt_new {D0 : Addr → Bool} {S : Slots} {σ : St} {H : Hp} {o : Ow} {p : Addr} {u : HO} (E : Env D0 S σ (co H) o) (h : H p = none) : vt D0 o (co (upd H p u)) p = some (core u) := by
  unfold vt
  rw [(E.new h).1, (E.new h).2, co_upd]
  exact upd_same
theorem vw_new {D0 : Addr → Bool} {S : Slots} {σ : St} {H : Hp} {o : Ow} {p : Addr} {u : HO} (E : Env D0 S σ (co H) o) (h : H p = none) : vw D0 o (co (upd H p u)) p = some (core u) := by
  unfold vw
  rw [(E.new h).1, (E.new h).2, co_upd]
  exact upd_same
/-- a new list, a new tuple, as a value -/
theorem Val.newL {D0 : Addr → Bool} {S : Slots} {σ : St} {H : Hp} {o : Ow} {p : Addr} {vs : List V} {ds : List PyData} {c : Prop} (E : Env D0 S σ (co H) o) (h : H p = none) (r : Vals' D0 o H vs ds c) : Val D0 o (upd H p (.lst vs)) (.ref p) (.list ds) c :=
  ⟨.lst (vt_new E h) (r.1.mono (XE.of (Le.new h)).vt), fun hc => .lst (vw_new E h) ((r.2 hc).mono (XE.of (Le.new h)).vw)⟩
theorem Val.newT {D0 : Addr → Bool} {S : Slots} {σ : St} {H : Hp} {o : Ow} {p : Addr} {vs : List V} {ds : List PyData} {c : Prop} (E : Env D0 S σ (co H) o) (h : H p = none) (r : Vals' D0 o H vs ds c) : Val D0 o (upd H p (.tup vs)) (.ref p) (.tuple ds) c :=
  ⟨.tup (vt_new E h) (r.1.mono (XE.of (Le.new h)).vt), fun hc => .tup (vw_new E h) ((r.2 hc).mono (XE.of (Le.new h)).vw)⟩
theorem SqL.at {K : PySem.W.Frag} {H : Hp} {a : Addr} {xs : List V} (h : H a = some (.lst xs)) : SqL K H a xs := .inl (.inl h)
theorem SqT.at {K : PySem.W.Frag} {H : Hp} {a : Addr} {xs : List V} (h : H a = some (.tup xs)) : SqT K H a xs := .inl (.inl h)
theorem o_add : Op2 X (binaryOp .Add) gAdd := by
  refine ⟨_, OpR.or op_add (OpR.or op_cat (OpR.or op_catA op_add_str)), ?_⟩
  intro D0 S σ o H x y dx dy cx cy K Q E Vx Vy hg k
  unfold gAdd at hg
  split at hg
  · cases Vx.1
    cases Vy.1
    exact .inl ⟨_, _, rfl, rfl, k _ _ _ H hg (Le.refl H) (Val.of (.int _))⟩
  · obtain ⟨a, vs, rfl, ea, ra, ca⟩ := Vx.items E
    obtain ⟨b, ws, rfl, eb, rb, cb⟩ := Vy.items E
    refine .inr (.inl ⟨a, b, vs, ws, rfl, rfl, ea, eb, by rw [ra.length, rb.length]; exact hg.1, fun p hp => ?_⟩)
    exact k _ _ _ _ hg.2 (Le.new hp) (Val.newL E hp ⟨ra.append rb, fun z => (ca z.1).append (cb z.2)⟩)
  · obtain ⟨a, vs, rfl, ea, ra, ca⟩ := Vx.titems E
    obtain ⟨b, ws, rfl, eb, rb, cb⟩ := Vy.titems E
    refine .inr (.inr (.inl ⟨a, b, vs, ws, rfl, rfl, SqT.at ea, SqT.at eb, by rw [ra.length, rb.length]; exact hg.1, fun z => ?_, fun _ z => ?_, fun _ _ p hp => ?_⟩))
    · subst z
      cases ra
      refine k _ _ _ H hg.2 (Le.refl H) ?_
      rw [List.nil_append]
      refine ⟨Vy.1, fun z => ?_⟩
      obtain ⟨b', ws', e1, e2, r2⟩ := rp_tup Vy.1
      cases e1
      exact .tup (E.vtw _ _ e2) (by
        have e3 := co_tup (vt_le _ _ e2)
        rw [eb] at e3
        cases e3
        exact cb z.2)
    · subst z
      cases rb
      refine k _ _ _ H hg.2 (Le.refl H) ?_
      rw [List.append_nil]
      refine ⟨Vx.1, fun z => ?_⟩
      obtain ⟨b', ws', e1, e2, r2⟩ := rp_tup Vx.1
      cases e1
      exact .tup (E.vtw _ _ e2) (by
        have e3 := co_tup (vt_le _ _ e2)
        rw [ea] at e3
        cases e3
        exact ca z.1)
    · exact k _ _ _ _ hg.2 (Le.new hp) (Val.newT E hp ⟨ra.append rb, fun z => (ca z.1).append (cb z.2)⟩)
  · cases Vx.1
    cases Vy.1
    exact .inr (.inr (.inr ⟨_, _, rfl, rfl, hg.1, k _ _ _ H hg.2 (Le.refl H) (Val.of (.str _))⟩))
  · exact hg.elim

/-! comparisons of data -/
mutual
theorem Rp.dp {K : PySem.W.Frag} {H : Hp} : ∀ {v : V} {d : PyData}, Rp (co H) v d → d.canLay0 = true → Dp K H v d
  | _, _, .non, _ => .non
  | _, _, .bl b, _ => .bl b
  | _, _, .int i, _ => .int i
  | _, _, .str s, _ => .str s
  | _, _, .lst e r, h => .lst (SqL.at (co_lst e)) (RpAll.dp r (by simpa [PyData.canLay0] using h))
  | _, _, .tup e r, h => .tup (SqT.at (co_tup e)) (RpAll.dp r (by simpa [PyData.canLay0] using h))
  | _, _, .dK e r, h => by simp [PyData.canLay0] at h
  | _, _, .dT e r, h => by simp [PyData.canLay0] at h
theorem RpAll.dp {K : PySem.W.Frag} {H : Hp} : ∀ {vs : List V} {ds : List PyData}, RpAll (co H) vs ds → PyData.canLayAll0 ds = true → DpAll K H vs ds
  | _, _, .nil, _ => .nil
  | _, _, .cons a b, h => by
    simp only [PyData.canLayAll0, Bool.and_eq_true] at h
    exact .cons (Rp.dp a h.1) (RpAll.dp b h.2)
end
theorem Val.dp {K : PySem.W.Frag} {D0 : Addr → Bool} {o : Ow} {H : Hp} {v : V} {d : PyData} {c : Prop} (h : Val D0 o H v d c) (s : SeqAt.shaped d = true) : Dp K H v d :=
  (h.1.mono vt_le).dp (SeqAt.canLay_of_shaped s)
def gEq : R2D := fun x _ y _ K => SeqAt.shaped x = true ∧ SeqAt.shaped y = true ∧ K (.bool (PyData.eqv x y)) True
def gNe : R2D := fun x _ y _ K => SeqAt.shaped x = true ∧ SeqAt.shaped y = true ∧ K (.bool (!PyData.eqv x y)) True
def gIn : R2D := fun x _ y _ K => match y with
  | .list ys => SeqAt.shaped x = true ∧ SeqAt.shaped (.list ys) = true ∧ K (.bool (ys.any fun z => PyData.eqv z x)) True
  | _ => False
def gNotIn : R2D := fun x _ y _ K => match y with
  | .list ys => SeqAt.shaped x = true ∧ SeqAt.shaped (.list ys) = true ∧ K (.bool (!ys.any fun z => PyData.eqv z x)) True
  | _ => False
def gIs : R2D := fun x _ y _ K => match x, y with
  | .none, .none => K (.bool true) True
  | _, .none => K (.bool false) True
  | _, _ => False
def gIsNot : R2D := fun x _ y _ K => match x, y with
  | .none, .none => K (.bool false) True
  | _, .none => K (.bool true) True
  | _, _ => False
theorem o_eq (a : At X W k) : Op2 X (compareOp .Eq) gEq :=
  ⟨_, op_eqD a.u64, fun D0 S σ o H x y dx dy cx cy K Q E Vx Vy hg k => ⟨dx, dy, Vx.dp hg.1, Vy.dp hg.2.1, hg.1, hg.2.1, k _ _ _ H hg.2.2 (Le.refl H) (Val.of (.bl _))⟩⟩
theorem o_ne (a : At X W k) : Op2 X (compareOp .NotEq) gNe :=
  ⟨_, op_neD a.u64, fun D0 S σ o H x y dx dy cx cy K Q E Vx Vy hg k => ⟨dx, dy, Vx.dp hg.1, Vy.dp hg.2.1, hg.1, hg.2.1, k _ _ _ H hg.2.2 (Le.refl H) (Val.of (.bl _))⟩⟩
theorem o_in (a : At X W k) : Op2 X (compareOp .In) gIn :=
  ⟨_, op_inD a.u65, fun D0 S σ o H x y dx dy cx cy K Q E Vx Vy hg k => by
    unfold gIn at hg
    split at hg
    · exact ⟨dx, _, Vx.dp hg.1, Vy.dp hg.2.1, hg.1, hg.2.1, k _ _ _ H hg.2.2 (Le.refl H) (Val.of (.bl _))⟩
    · exact hg.elim⟩
theorem o_notIn (a : At X W k) : Op2 X (compareOp .NotIn) gNotIn :=
  ⟨_, op_notInD a.u65, fun D0 S σ o H x y dx dy cx cy K Q E Vx Vy hg k => by
    unfold gNotIn at hg
    split at hg
    · exact ⟨dx, _, Vx.dp hg.1, Vy.dp hg.2.1, hg.1, hg.2.1, k _ _ _ H hg.2.2 (Le.refl H) (Val.of (.bl _))⟩
    · exact hg.elim⟩
theorem rp_none {G : Hp} {x : V} {d : PyData} (r : Rp G x d) : x = .non ↔ d = .none := by cases r <;> simp
theorem o_is : Op2 X (compareOp .Is) gIs :=
  ⟨_, op_isN, fun D0 S σ o H x y dx dy cx cy K Q E Vx Vy hg k => by
    unfold gIs at hg
    split at hg
    · cases Vx.1; cases Vy.1
      exact ⟨rfl, k _ _ _ H hg (Le.refl H) (Val.of (.bl _))⟩
    · rename_i hn
      cases Vy.1
      refine ⟨rfl, ?_⟩
      rw [decide_eq_false (fun z => hn ((rp_none Vx.1).mp z))]
      exact k _ _ _ H hg (Le.refl H) (Val.of (.bl _))
    · exact hg.elim⟩
theorem o_isNot : Op2 X (compareOp .IsNot) gIsNot :=
  ⟨_, op_notN, fun D0 S σ o H x y dx dy cx cy K Q E Vx Vy hg k => by
    unfold gIsNot at hg
    split at hg
    · cases Vx.1; cases Vy.1
      exact ⟨rfl, k _ _ _ H hg (Le.refl H) (Val.of (.bl _))⟩
    · rename_i hn
      cases Vy.1
      refine ⟨rfl, ?_⟩
      rw [decide_eq_false (fun z => hn ((rp_none Vx.1).mp z))]
      exact k _ _ _ H hg (Le.refl H) (Val.of (.bl _))
    · exact hg.elim⟩

/-! ### and, or, not; tests -/
def wNot (wa : WEx) : WEx := fun S A B => wa S (fun d _ S1 => bl? d fun b => A (.bool (!b)) True S1) B
def wAnd (wa wb : WEx) : WEx := fun S A B => wa S (fun d _ S1 => bl? d fun b => if b = true then wb S1 A B else A (.bool false) True S1) B
def wOr (wa wb : WEx) : WEx := fun S A B => wa S (fun d _ S1 => bl? d fun b => if b = true then A (.bool true) True S1 else wb S1 A B) B
theorem se_not {a : Expr} {wa : WEx} (ha : SE X W a wa) : SE X W (.UnaryOp .Not a pos) (wNot wa) := by
  obtain ⟨ta, pa, sa⟩ := ha.ex
  refine ⟨_, pe_not pa, ?_⟩
  intro D0 S σ H o A B Q E hw k kx
  refine sa D0 S σ H o _ B _ E hw (fun d c S1 v H1 h1 E1 x1 V1 => ?_) kx
  obtain ⟨b, rfl, h⟩ := bl_rp V1.1 h1
  exact ⟨b, rfl, k _ _ _ _ H1 h E1 x1 (Val.of (.bl _))⟩
theorem se_one {op : BoolOp} {a : Expr} {wa : WEx} (ha : SE X W a wa) : SE X W (.BoolOp op [a] pos) wa := by
  obtain ⟨ta, pa, sa⟩ := ha.ex
  exact ⟨_, pe_one pa, sa⟩
theorem se_and {a b : Expr} {rest : List Expr} {wa wb : WEx} (ha : SE X W a wa) (hb : SE X W (.BoolOp .And (b :: rest) pos) wb) : SE X W (.BoolOp .And (a :: b :: rest) pos) (wAnd wa wb) := by
  obtain ⟨ta, pa, sa⟩ := ha.ex
  obtain ⟨tb, pb, sb⟩ := hb.ex
  refine ⟨_, pe_and pa pb, ?_⟩
  intro D0 S σ H o A B Q E hw k kx
  refine sa D0 S σ H o _ B _ E hw (fun d c S1 v H1 h1 E1 x1 V1 => ?_) kx
  obtain ⟨b, rfl, h⟩ := bl_rp V1.1 h1
  refine ⟨b, rfl, ?_⟩
  cases b with
  | true => exact sb D0 S1 σ H1 o A B Q E1 h (fun d c S2 v H2 h2 E2 x2 V2 => k d c S2 v H2 h2 E2 (x1.trans x2) V2) (kx.on x1)
  | false => exact k _ _ _ _ H1 h E1 x1 (Val.of (.bl _))
theorem se_or {a b : Expr} {rest : List Expr} {wa wb : WEx} (ha : SE X W a wa) (hb : SE X W (.BoolOp .Or (b :: rest) pos) wb) : SE X W (.BoolOp .Or (a :: b :: rest) pos) (wOr wa wb) := by
  obtain ⟨ta, pa, sa⟩ := ha.ex
  obtain ⟨tb, pb, sb⟩ := hb.ex
  refine ⟨_, pe_or pa pb, ?_⟩
  intro D0 S σ H o A B Q E hw k kx
  refine sa D0 S σ H o _ B _ E hw (fun d c S1 v H1 h1 E1 x1 V1 => ?_) kx
  obtain ⟨b, rfl, h⟩ := bl_rp V1.1 h1
  refine ⟨b, rfl, ?_⟩
  cases b with
  | true => exact k _ _ _ _ H1 h E1 x1 (Val.of (.bl _))
  | false => exact sb D0 S1 σ H1 o A B Q E1 h (fun d c S2 v H2 h2 E2 x2 V2 => k d c S2 v H2 h2 E2 (x1.trans x2) V2) (kx.on x1)
/-- tests -/
def wB (wa : WEx) : WTx := fun S A B => wa S (fun d _ S1 => bl? d fun b => A b S1) B
def wTNot (wt : WTx) : WTx := fun S A B => wt S (fun b S1 => A (!b) S1) B
def wTAnd (wa wb : WTx) : WTx := fun S A B => wa S (fun b S1 => if b = true then wb S1 A B else A false S1) B
def wTOr (wa wb : WTx) : WTx := fun S A B => wa S (fun b S1 => if b = true then A true S1 else wb S1 A B) B
/-- a list, a tuple, an int by truth -/
def wTru (wa : WEx) : WTx := fun S A B => wa S (fun d _ S1 => match d with
  | .list xs => A (!xs.isEmpty) S1
  | .tuple xs => A (!xs.isEmpty) S1
  | .int i => A (i != 0) S1
  | .bool b => A b S1
  | _ => False) B
theorem st_b {a : Expr} {wa : WEx} (ha : SE X W a wa) (he : ∀ whole, isTrue a X.env whole = (do let v ← whole; standAt a.pos; holding [v] (truthy v)) := by intro _; rfl) : ST X W a (wB wa) := by
  obtain ⟨ta, pa, sa⟩ := ha.ex
  refine ⟨_, pt_val pa he, ?_⟩
  intro D0 S σ H o A B Q E hw k kx
  refine sa D0 S σ H o _ B _ E hw (fun d c S1 v H1 h1 E1 x1 V1 => ?_) kx
  obtain ⟨b, rfl, h⟩ := bl_rp V1.1 h1
  exact ⟨b, rfl, k b S1 H1 h E1 x1⟩
theorem rp_isEmpty {G : Hp} {vs : List V} {ds : List PyData} (r : RpAll G vs ds) : vs.isEmpty = ds.isEmpty := by cases r <;> rfl
theorem st_tru {a : Expr} {wa : WEx} (ha : SE X W a wa) (he : ∀ whole, isTrue a X.env whole = (do let v ← whole; standAt a.pos; holding [v] (truthy v)) := by intro _; rfl) : ST X W a (wTru wa) := by
  obtain ⟨ta, pa, sa⟩ := ha.ex
  refine ⟨_, pt_truth pa he, ?_⟩
  intro D0 S σ H o A B Q E hw k kx
  refine sa D0 S σ H o _ B _ E hw (fun d c S1 v H1 h1 E1 x1 V1 => ?_) kx
  split at h1
  · obtain ⟨a, vs, rfl, e, r, _⟩ := V1.items E1
    exact ⟨_, .inl ⟨vs, SqL.at e, rfl⟩, k _ S1 H1 (by rw [rp_isEmpty r]; exact h1) E1 x1⟩
  · obtain ⟨a, vs, rfl, e, r, _⟩ := V1.titems E1
    exact ⟨_, .inr (.inl ⟨vs, SqT.at e, rfl⟩), k _ S1 H1 (by rw [rp_isEmpty r]; exact h1) E1 x1⟩
  · cases V1.1
    exact ⟨_, rfl, k _ S1 H1 h1 E1 x1⟩
  · cases V1.1
    exact ⟨_, rfl, k _ S1 H1 h1 E1 x1⟩
  · exact h1.elim
theorem st_not {a : Expr} {wa : WTx} (ha : ST X W a wa) : ST X W (.UnaryOp .Not a pos) (wTNot wa) := by
  obtain ⟨ta, pa, sa⟩ := ha.ex
  exact ⟨_, pt_not pa, fun D0 S σ H o A B Q E hw k kx => sa D0 S σ H o _ B _ E hw (fun b S1 H1 h1 E1 x1 => k (!b) S1 H1 h1 E1 x1) kx⟩
structure SW (X : Cx) (W : WM) (e : Expr) (w : WTx) : Prop where
  ex : ∃ t, PW X e t ∧ SndT W t w
theorem st_w {a : Expr} {wa : WTx} (ha : SW X W a wa) : ST X W a wa := by
  obtain ⟨ta, pa, sa⟩ := ha.ex
  exact ⟨_, pa.pt, sa⟩
theorem sw_and1 {a : Expr} {wa : WTx} (ha : ST X W a wa) : SW X W (.BoolOp .And [a] pos) wa := by
  obtain ⟨ta, pa, sa⟩ := ha.ex
  exact ⟨_, pw_and1 pa, sa⟩
theorem sw_or1 {a : Expr} {wa : WTx} (ha : ST X W a wa) : SW X W (.BoolOp .Or [a] pos) wa := by
  obtain ⟨ta, pa, sa⟩ := ha.ex
  exact ⟨_, pw_or1 pa, sa⟩
theorem sw_and {a b : Expr} {rest : List Expr} {wa wb : WTx} (ha : ST X W a wa) (hb : SW X W (.BoolOp .And (b :: rest) pos) wb) : SW X W (.BoolOp .And (a :: b :: rest) pos) (wTAnd wa wb) := by
  obtain ⟨ta, pa, sa⟩ := ha.ex
  obtain ⟨tb, pb, sb⟩ := hb.ex
  refine ⟨_, pw_and pa pb, ?_⟩
  intro D0 S σ H o A B Q E hw k kx
  refine sa D0 S σ H o _ B _ E hw (fun b S1 H1 h1 E1 x1 => ?_) kx
  cases b with
  | true => exact sb D0 S1 σ H1 o A B Q E1 h1 (fun d S2 H2 h2 E2 x2 => k d S2 H2 h2 E2 (x1.trans x2)) (kx.on x1)
  | false => exact k _ _ H1 h1 E1 x1
theorem sw_or {a b : Expr} {rest : List Expr} {wa wb : WTx} (ha : ST X W a wa) (hb : SW X W (.BoolOp .Or (b :: rest) pos) wb) : SW X W (.BoolOp .Or (a :: b :: rest) pos) (wTOr wa wb) := by
  obtain ⟨ta, pa, sa⟩ := ha.ex
  obtain ⟨tb, pb, sb⟩ := hb.ex
  refine ⟨_, pw_or pa pb, ?_⟩
  intro D0 S σ H o A B Q E hw k kx
  refine sa D0 S σ H o _ B _ E hw (fun b S1 H1 h1 E1 x1 => ?_) kx
  cases b with
  | true => exact k _ _ H1 h1 E1 x1
  | false => exact sb D0 S1 σ H1 o A B Q E1 h1 (fun d S2 H2 h2 E2 x2 => k d S2 H2 h2 E2 (x1.trans x2)) (kx.on x1)
def wIf (wt : WTx) (wa wb : WEx) : WEx := fun S A B => wt S (fun b S1 => if b = true then wa S1 A B else wb S1 A B) B
theorem se_if {c a b : Expr} {wt : WTx} {wa wb : WEx} (hc : ST X W c wt) (ha : SE X W a wa) (hb : SE X W b wb) : SE X W (.IfExp c a b pos) (wIf wt wa wb) := by
  obtain ⟨tc, pc, sc⟩ := hc.ex
  obtain ⟨ta, pa, sa⟩ := ha.ex
  obtain ⟨tb, pb, sb⟩ := hb.ex
  refine ⟨_, pe_ifExp pc pa pb, ?_⟩
  intro D0 S σ H o A B Q E hw k kx
  refine sc D0 S σ H o _ B _ E hw (fun b S1 H1 h1 E1 x1 => ?_) kx
  cases b with
  | true => exact sa D0 S1 σ H1 o A B Q E1 h1 (fun d c S2 v H2 h2 E2 x2 V2 => k d c S2 v H2 h2 E2 (x1.trans x2) V2) (kx.on x1)
  | false => exact sb D0 S1 σ H1 o A B Q E1 h1 (fun d c S2 v H2 h2 E2 x2 V2 => k d c S2 v H2 h2 E2 (x1.trans x2) V2) (kx.on x1)

/-! ### argument lists, displays -/
def wNil : WLs := fun S A _ => A [] True S
def wCons (we : WEx) (wr : WLs) : WLs := fun S A B => we S (fun d c S1 => wr S1 (fun ds c' S2 => A (d :: ds) ((c ∨ flat d = true) ∧ c') S2) B) B
theorem sa_nil : SA X W [] wNil := ⟨_, pa_nil, fun D0 S σ H o A B Q E hw k kx => k _ _ _ _ H rfl hw E (XE.refl o H) ⟨.nil, fun _ => .nil⟩⟩
theorem sa_cons {e : Expr} {es : List Expr} {we : WEx} {wr : WLs} (he : SE X W e we) (hr : SA X W es wr) (hs : starEach (e :: es) X.env = (false, eval e X.env) :: starEach es X.env := by rfl) : SA X W (e :: es) (wCons we wr) := by
  obtain ⟨te, pe, se⟩ := he.ex
  obtain ⟨tr, pr, sr⟩ := hr.ex
  refine ⟨_, pa_cons pe pr hs, ?_⟩
  intro D0 S σ H o A B Q E hw k kx
  refine se D0 S σ H o _ B _ E hw (fun d c S1 v H1 h1 E1 x1 V1 => ?_) kx
  refine sr D0 S1 σ H1 o _ B _ E1 h1 (fun ds c2 S2 vs H2 hl h2 E2 x2 V2 => ?_) (kx.on x1)
  have V1' := (V1.mono x2).flat E2
  exact k _ _ S2 _ H2 (by rw [List.length_cons, List.length_cons, hl]) h2 E2 (x1.trans x2) ⟨.cons V1'.1 V2.1, fun z => .cons (V1'.2 z.1) (V2.2 z.2)⟩
def wTup (wa : WLs) : WEx := fun S A B => wa S (fun ds c S1 => ds.length ≤ sizeLine ∧ A (.tuple ds) c S1) B
def wLst (wa : WLs) : WLs := fun S A B => wa S (fun ds c S1 => ds.length ≤ sizeLine ∧ A ds c S1) B
def wO (wa : WLs) : WEx := fun S A B => wa S (fun ds c S1 => A (.list ds) c S1) B
theorem se_tup {es : List Expr} {wa : WLs} {x1} (h : SA X W es wa) : SE X W (.Tuple es x1 pos) (wTup wa) := by
  obtain ⟨ta, pa, sa⟩ := h.ex
  refine ⟨_, pe_tup pa, ?_⟩
  intro D0 S σ H o A B Q E hw k kx
  refine sa D0 S σ H o _ B _ E hw (fun ds c S1 vs H1 hl h1 E1 x1 V1 => ?_) kx
  exact ⟨by rw [V1.1.length]; exact h1.1, fun p hp => k _ _ S1 _ _ h1.2 (E1.xe (Le.new hp)) (x1.trans (XE.of (Le.new hp))) (Val.newT E1 hp V1)⟩
theorem so_lst {es : List Expr} {wa : WLs} (h : SA X W es wa) : SO X W (.List es pos) (wLst wa) := by
  obtain ⟨ta, pa, sa⟩ := h.ex
  refine ⟨_, pe_lst pa, ?_⟩
  intro D0 S σ H o A B Q E hw k kx
  refine sa D0 S σ H o _ B _ E hw (fun ds c S1 vs H1 hl h1 E1 x1 V1 => ?_) kx
  exact ⟨by rw [V1.1.length]; exact h1.1, fun p hp => k _ _ S1 _ p H1 h1.2 E1 x1 hp V1⟩
theorem se_o {e : Expr} {wa : WLs} (h : SO X W e wa) : SE X W e (wO wa) := by
  obtain ⟨ta, pa, sa⟩ := h.ex
  refine ⟨_, pa, ?_⟩
  intro D0 S σ H o A B Q E hw k kx
  exact sa D0 S σ H o _ B _ E hw (fun ds c S1 vs p H1 h1 E1 x1 hp V1 => k _ _ S1 _ _ h1 (E1.xe (Le.new hp)) (x1.trans (XE.of (Le.new hp))) (Val.newL E1 hp V1)) kx
end
end Pu

namespace Pu
open PySem L2
section
variable {X : Cx} {W : WM} {k : Nat} {pos : Pos}

/-! ### built-in functions by name -/
abbrev RD := List PyData → Prop → (PyData → Prop → Prop) → Prop
structure Fn (X : Cx) (f : Value) (g : RD) : Prop where
  ex : ∃ r, CallR X f r ∧ ∀ (D0 : Addr → Bool) (S : Slots) (σ : St) (o : Ow) (H : Hp) (vs : List V) (ds : List PyData) (c : Prop) (K : PyData → Prop → Prop) (Q : VK), Env D0 S σ (co H) o → Vals' D0 o H vs ds c → g ds c K →
    (∀ z dz cz H', K dz cz → Le H H' → Val D0 o H' z dz cz → Q z H') → r vs H Q
/-- .. that make a new list -/
abbrev RDL := List PyData → Prop → (List PyData → Prop → Prop) → Prop
structure FnO (X : Cx) (f : Value) (g : RDL) : Prop where
  ex : ∃ r, CallR X f r ∧ ∀ (D0 : Addr → Bool) (S : Slots) (σ : St) (o : Ow) (H : Hp) (vs : List V) (ds : List PyData) (c : Prop) (K : List PyData → Prop → Prop) (Q : VK), Env D0 S σ (co H) o → Vals' D0 o H vs ds c → g ds c K →
    (∀ zs cz ws p H1, K zs cz → Le H H1 → H1 p = none → Vals' D0 o H1 ws zs cz → Q (.ref p) (upd H1 p (.lst ws))) → r vs H Q
def wFn (g : RD) (wa : WLs) : WEx := fun S A B => wa S (fun ds c S1 => g ds c fun z cz => A z cz S1) B
def wFnO (g : RDL) (wa : WLs) : WLs := fun S A B => wa S (fun ds c S1 => g ds c fun zs cz => A zs cz S1) B
theorem snd_fn {g : RD} {wa : WLs} {ta : TA} {r : List V → Hp → VK → Prop} {n : Nat} (sa : SndA W ta n wa) (hr : ∀ (D0 : Addr → Bool) (S : Slots) (σ : St) (o : Ow) (H : Hp) (vs : List V) (ds : List PyData) (c : Prop) (K : PyData → Prop → Prop) (Q : VK), Env D0 S σ (co H) o → Vals' D0 o H vs ds c → g ds c K →
    (∀ z dz cz H', K dz cz → Le H H' → Val D0 o H' z dz cz → Q z H') → r vs H Q) : Snd W (tCB r ta) (wFn g wa) := by
  intro D0 S σ H o A B Q E hw k kx
  refine sa D0 S σ H o _ B _ E hw (fun ds c S1 vs H1 hl h1 E1 x1 V1 => ?_) kx
  exact hr D0 S1 σ o H1 vs ds c _ Q E1 V1 h1 fun z dz cz H' hz le V => k _ _ S1 z H' hz (E1.xe le) (x1.trans (XE.of le)) V
theorem se_fb {id : String} {x : Str} {p : Pos} {e : Expr} {es : List Expr} {g : RD} {wa : WLs} (hc : Fn X (.builtin id) g) (hm : X.mg x = none) (hv : bootBuiltins x = some (.builtin id)) (ha : SA X W (e :: es) wa) (hg : Gl X x := by rfl) (hn : x ≠ "__name__" := by decide) (hdb : (x == ("__debug__" : Str)) = false := by decide)
    (he : starEach (e :: es) X.env = (false, eval e X.env) :: starEach es X.env := by rfl) (hpl : (backTo pos (starEach es X.env)).any (·.1) = false := by rfl) : SE X W (.Call (.Name x p) (e :: es) [] pos) (wFn g wa) := by
  obtain ⟨ta, pa, sa⟩ := ha.ex
  obtain ⟨r, hr, h⟩ := hc.ex
  exact ⟨_, pe_callB hr hg hm hv pa hn hdb he hpl, snd_fn sa h⟩
theorem se_ft {T : String} {x : Str} {p : Pos} {e : Expr} {es : List Expr} {g : RD} {wa : WLs} (hc : Fn X (.type T) g) (hm : X.mg x = none) (hv : bootBuiltins x = some (.type T)) (ha : SA X W (e :: es) wa) (hg : Gl X x := by rfl) (hn : x ≠ "__name__" := by decide) (hdb : (x == ("__debug__" : Str)) = false := by decide)
    (he : starEach (e :: es) X.env = (false, eval e X.env) :: starEach es X.env := by rfl) (hpl : (backTo pos (starEach es X.env)).any (·.1) = false := by rfl) : SE X W (.Call (.Name x p) (e :: es) [] pos) (wFn g wa) := by
  obtain ⟨ta, pa, sa⟩ := ha.ex
  obtain ⟨r, hr, h⟩ := hc.ex
  exact ⟨_, pe_callTy hr hg hm hv pa hn hdb he hpl, snd_fn sa h⟩
theorem snd_fnO {g : RDL} {wa : WLs} {ta : TA} {r : List V → Hp → VK → Prop} {n : Nat} (sa : SndA W ta n wa) (hr : ∀ (D0 : Addr → Bool) (S : Slots) (σ : St) (o : Ow) (H : Hp) (vs : List V) (ds : List PyData) (c : Prop) (K : List PyData → Prop → Prop) (Q : VK), Env D0 S σ (co H) o → Vals' D0 o H vs ds c → g ds c K →
    (∀ zs cz ws p H1, K zs cz → Le H H1 → H1 p = none → Vals' D0 o H1 ws zs cz → Q (.ref p) (upd H1 p (.lst ws))) → r vs H Q) : SndO W (tCB r ta) (wFnO g wa) := by
  intro D0 S σ H o A B Q E hw k kx
  refine sa D0 S σ H o _ B _ E hw (fun ds c S1 vs H1 hl h1 E1 x1 V1 => ?_) kx
  exact hr D0 S1 σ o H1 vs ds c _ Q E1 V1 h1 fun zs cz ws p H2 hz le hp V => k _ _ S1 ws p H2 hz (E1.xe le) (x1.trans (XE.of le)) hp V
theorem so_fb {id : String} {x : Str} {p : Pos} {e : Expr} {es : List Expr} {g : RDL} {wa : WLs} (hc : FnO X (.builtin id) g) (hm : X.mg x = none) (hv : bootBuiltins x = some (.builtin id)) (ha : SA X W (e :: es) wa) (hg : Gl X x := by rfl) (hn : x ≠ "__name__" := by decide) (hdb : (x == ("__debug__" : Str)) = false := by decide)
    (he : starEach (e :: es) X.env = (false, eval e X.env) :: starEach es X.env := by rfl) (hpl : (backTo pos (starEach es X.env)).any (·.1) = false := by rfl) : SO X W (.Call (.Name x p) (e :: es) [] pos) (wFnO g wa) := by
  obtain ⟨ta, pa, sa⟩ := ha.ex
  obtain ⟨r, hr, h⟩ := hc.ex
  exact ⟨_, pe_callB hr hg hm hv pa hn hdb he hpl, snd_fnO sa h⟩
theorem so_ft {T : String} {x : Str} {p : Pos} {e : Expr} {es : List Expr} {g : RDL} {wa : WLs} (hc : FnO X (.type T) g) (hm : X.mg x = none) (hv : bootBuiltins x = some (.type T)) (ha : SA X W (e :: es) wa) (hg : Gl X x := by rfl) (hn : x ≠ "__name__" := by decide) (hdb : (x == ("__debug__" : Str)) = false := by decide)
    (he : starEach (e :: es) X.env = (false, eval e X.env) :: starEach es X.env := by rfl) (hpl : (backTo pos (starEach es X.env)).any (·.1) = false := by rfl) : SO X W (.Call (.Name x p) (e :: es) [] pos) (wFnO g wa) := by
  obtain ⟨ta, pa, sa⟩ := ha.ex
  obtain ⟨r, hr, h⟩ := hc.ex
  exact ⟨_, pe_callTy hr hg hm hv pa hn hdb he hpl, snd_fnO sa h⟩

/-! ### defs of the text -/
/-- what a def makes of its arguments: the wish for its value, the wish for an exception -/
abbrev Spc := List PyData → (PyData → Prop) → (XC → Prop) → Prop
def hid (D0 : Addr → Bool) (C : Hp) : Hp := fun a => if D0 a = true then none else C a
/-- the promise of a def that changes nothing; n: how many parameters -/
def spOf (mg : Str → Option Value) (n : Nat) (sp : Spc) : Sp := fun vs H Q E => ∃ (ds : List PyData) (D0 : Addr → Bool) (A : PyData → Prop) (B : XC → Prop), ds.length = n ∧ (∀ a, D0 a = true → ∃ u, co H a = some u ∧ isTup u = false) ∧ RpAll (hid D0 (co H)) vs ds ∧ sp ds A B ∧
  (∀ d v H', A d → Le H H' → Rp (hid D0 (co H')) v d → Q v H') ∧ (∀ x cls dd H', B x → Le H H' → XOk mg H' x cls dd → E cls dd H')
theorem spOf_len {mg : Str → Option Value} {n : Nat} {sp : Spc} {vs : List V} {H : Hp} {Q : VK} {E : XK} (h : spOf mg n sp vs H Q E) : vs.length = n := by
  obtain ⟨ds, D0, A, B, h1, h2, h3, _⟩ := h
  rw [h3.length, h1]
def wCall (sp : Spc) (wa : WLs) : WEx := fun S A B => wa S (fun ds c S1 => sp ds (fun d => A d c S1) (fun x => B x S1)) B
theorem hid_vw {D0 : Addr → Bool} {o : Ow} {C : Hp} : hid (fun a => D0 a || (o a).isSome) C = vw D0 o C := rfl
theorem hid_vt {D0 : Addr → Bool} {o : Ow} {C : Hp} : hid (fun a => D0 a || mutO (o a)) C = vt D0 o C := rfl
theorem Env.deadV {D0 : Addr → Bool} {S : Slots} {σ : St} {C : Hp} {o : Ow} (E : Env D0 S σ C o) : ∀ a, (D0 a || (o a).isSome) = true → ∃ u, C a = some u ∧ isTup u = false := fun a h => by
  rw [Bool.or_eq_true] at h
  rcases h with h | h
  · exact E.dead a h
  · cases e : o a with
    | none => rw [e] at h; cases h
    | some p => exact (E.live a p e).2
theorem Env.deadM {D0 : Addr → Bool} {S : Slots} {σ : St} {C : Hp} {o : Ow} (E : Env D0 S σ C o) : ∀ a, (D0 a || mutO (o a)) = true → ∃ u, C a = some u ∧ isTup u = false := fun a h => by
  rw [Bool.or_eq_true] at h
  rcases h with h | h
  · exact E.dead a h
  · cases e : o a with
    | none => rw [e] at h; cases h
    | some p => exact (E.live a p e).2
/-- a def as it stands, with its promise -/
structure Def (P : Program) (w : World) (K : PySem.W.Frag) (mg : Str → Option Value) (base : Heap) (k : Nat) (x : Str) (n : Nat) (sp : Sp) : Prop where
  ex : ∃ (f : Addr) (fd : FuncData) (ps : List Str), FnOk P w K mg base (L2.CX P w) k f fd ps sp ∧ mg x = some (.ref f) ∧ PySem.W.keepIn K (.ref f) = true ∧ Binds K fd ps [] ∧ ps.length = n
theorem se_call {j n : Nat} {sp : Spc} {x : Str} {p : Pos} {e : Expr} {es : List Expr} {wa : WLs} (a : At X W k) (F : Def X.prog X.w X.K X.mg X.base j x n (spOf X.mg n sp)) (hj : j ≤ k) (ha : SA X W (e :: es) wa) (hg : Gl X x := by rfl) (hdb : (x == ("__debug__" : Str)) = false := by decide)
    (he : starEach (e :: es) X.env = (false, eval e X.env) :: starEach es X.env := by rfl) (hpl : (backTo pos (starEach es X.env)).any (·.1) = false := by rfl) (hn : (e :: es).length = n := by rfl) : SE X W (.Call (.Name x p) (e :: es) [] pos) (wCall sp wa) := by
  obtain ⟨ta, pa, sa⟩ := ha.ex
  obtain ⟨f, fd, ps, G, hm, hk, hb, hps⟩ := F.ex
  refine ⟨_, pe_callS G (a.room.mono hj) hg hm hk hb a.tk pa hdb he hpl, ?_⟩
  intro D0 S σ H o A B Q E hw kk kx
  refine sa D0 S σ H o _ B _ E hw (fun ds c S1 vs H1 hl h1 E1 x1 V1 => ?_) kx
  have hl := hl.trans hn
  have ex : ∀ x cls dd H', B x S1 → Le H1 H' → XOk X.mg H' x cls dd → W.w cls dd σ H' := fun x cls dd H' hx le ok => kx x S1 cls dd H' hx (E1.xe le) (x1.trans (XE.of le)) (by rw [a.mq]; exact ok)
  by_cases hc : c
  · refine ⟨ds, fun a => D0 a || (o a).isSome, _, _, hl, E1.deadV, V1.2 hc, h1, fun d v H' hd le r => ?_, fun x cls dd H' hx le ok => ex x cls dd H' hx le ok⟩
    exact kk d c S1 v H' hd (E1.xe le) (x1.trans (XE.of le)) ⟨Rp.mono vw_le_vt r, fun _ => r⟩
  · refine ⟨ds, fun a => D0 a || mutO (o a), _, _, hl, E1.deadM, V1.1, h1, fun d v H' hd le r => ?_, fun x cls dd H' hx le ok => ex x cls dd H' hx le ok⟩
    exact kk d c S1 v H' hd (E1.xe le) (x1.trans (XE.of le)) ⟨r, fun z => absurd z hc⟩

/-! ### places -/
def atD (xs : List PyData) (i : Int) : Option PyData := (ixN xs.length i).bind fun j => xs[j]?
theorem rp_at {G : Hp} {vs : List V} {ds : List PyData} {i : Int} {d : PyData} (r : RpAll G vs ds) (h : atD ds i = some d) : ∃ v, atI vs i = some v ∧ Rp G v d := by
  unfold atD at h
  unfold atI
  rw [r.length]
  cases e : ixN ds.length i with
  | none => rw [e] at h; cases h
  | some j =>
    rw [e] at h
    obtain ⟨v, hv, rv⟩ := r.get (i := j) (d := d) h
    exact ⟨v, hv, rv⟩
theorem rp_at2 {G G' : Hp} {vs : List V} {ds : List PyData} {i : Int} {d : PyData} {v : V} (r : RpAll G vs ds) (h : atD ds i = some d) (hv : atI vs i = some v) : Rp G v d := by
  obtain ⟨v', h1, h2⟩ := rp_at r h
  rw [hv] at h1
  cases h1
  exact h2
def wIx (wa wb : WEx) : WEx := fun S A B => wa S (fun x cx S1 => wb S1 (fun y _ S2 => match x, y with
  | .list xs, .int i => ∃ d, atD xs i = some d ∧ A d (cx ∨ flats xs = true) S2
  | .tuple xs, .int i => ∃ d, atD xs i = some d ∧ A d (cx ∨ flats xs = true) S2
  | .str s, .int i => s.length ≤ sizeLine ∧ ∃ z, atI s.cps.toList i = some z ∧ A (.str ⟨#[z]⟩) True S2
  | _, _ => False) B) B
theorem se_ix {a b : Expr} {wa wb : WEx} (ha : SE X W a wa) (hb : SE X W b wb) (hs : PlainIx b := by exact fun _ _ => rfl) : SE X W (.Subscript a b pos) (wIx wa wb) := by
  obtain ⟨ta, pa, sa⟩ := ha.ex
  obtain ⟨tb, pb, sb⟩ := hb.ex
  refine ⟨_, pe_ix ix_seq pa pb hs, ?_⟩
  intro D0 S σ H o A B Q E hw k kx
  refine sa D0 S σ H o _ B _ E hw (fun x cx S1 v H1 h1 E1 x1 V1 => ?_) kx
  refine sb D0 S1 σ H1 o _ B _ E1 h1 (fun y cy S2 u H2 h2 E2 x2 V2 => ?_) (kx.on x1)
  have V1' := V1.mono x2
  split at h2
  · obtain ⟨d, hd, h2⟩ := h2
    cases V2.1
    obtain ⟨a, vs, rfl, e, r, c⟩ := V1'.items E2
    obtain ⟨w', e1, r1⟩ := rp_at r hd
    exact .inl ⟨a, vs, _, w', rfl, rfl, SqL.at e, e1, k _ _ S2 _ H2 h2 E2 (x1.trans x2) ⟨r1, fun z => rp_at2 (G' := co H2) (c z) hd e1⟩⟩
  · obtain ⟨d, hd, h2⟩ := h2
    cases V2.1
    obtain ⟨a, vs, rfl, e, r, c⟩ := V1'.titems E2
    obtain ⟨w', e1, r1⟩ := rp_at r hd
    exact .inr (.inl ⟨a, vs, _, w', rfl, rfl, SqT.at e, e1, k _ _ S2 _ H2 h2 E2 (x1.trans x2) ⟨r1, fun z => rp_at2 (G' := co H2) (c z) hd e1⟩⟩)
  · obtain ⟨hz, z, hd, h2⟩ := h2
    cases V2.1
    cases V1'.1
    exact .inr (.inr ⟨_, _, z, rfl, rfl, hz, hd, k _ _ S2 _ H2 h2 E2 (x1.trans x2) (Val.of (.str _))⟩)
  · exact h2.elim

/-! ### targets; L: the slots that may be stored -/
abbrev WTg := PyData → Prop → Slots → (Slots → Prop) → Prop
abbrev WTgs := List PyData → Prop → Slots → (Slots → Prop) → Prop
/-- but for L the frame is as it was -/
structure Kept (L : List Nat) (S : Slots) (σ : St) (S' : Slots) (σ' : St) : Prop where
  ln : σ'.length = σ.length
  st : ∀ j, j ∉ L → σ'[j]? = σ[j]?
  sl : ∀ j, j ∉ L → S'[j]? = S[j]?
theorem Kept.refl (L : List Nat) (S : Slots) (σ : St) : Kept L S σ S σ := ⟨rfl, fun _ _ => rfl, fun _ _ => rfl⟩
theorem Kept.trans {L M : List Nat} {S S1 S2 : Slots} {σ σ1 σ2 : St} (a : Kept L S σ S1 σ1) (b : Kept M S1 σ1 S2 σ2) : Kept (L ++ M) S σ S2 σ2 :=
  ⟨b.ln.trans a.ln, fun j h => (b.st j fun z => h (List.mem_append_right _ z)).trans (a.st j fun z => h (List.mem_append_left _ z)), fun j h => (b.sl j fun z => h (List.mem_append_right _ z)).trans (a.sl j fun z => h (List.mem_append_left _ z))⟩
def SndG (L : List Nat) (g : TG) (w : WTg) : Prop := ∀ (D0 : Addr → Bool) (S : Slots) (σ : St) (H : Hp) (o : Ow) (v : V) (d : PyData) (c : Prop) (K : Slots → Prop) (Q : St → Hp → Prop), Env D0 S σ (co H) o → Val D0 o H v d c → w d c S K →
  (∀ S' σ', K S' → Env D0 S' σ' (co H) o → Kept L S σ S' σ' → Q σ' H) → g v σ H Q
def SndGs (L : List Nat) (g : TGs) (w : WTgs) : Prop := ∀ (D0 : Addr → Bool) (S : Slots) (σ : St) (H : Hp) (o : Ow) (vs : List V) (ds : List PyData) (c : Prop) (K : Slots → Prop) (Q : St → Hp → Prop), Env D0 S σ (co H) o → Vals' D0 o H vs ds c → w ds c S K →
  (∀ S' σ', K S' → Env D0 S' σ' (co H) o → Kept L S σ S' σ' → Q σ' H) → g vs σ H Q
structure SG (X : Cx) (tg : Expr) (L : List Nat) (w : WTg) : Prop where
  ex : ∃ t, PG X tg t ∧ SndG L t w
structure SGs (X : Cx) (tgs : List Expr) (L : List Nat) (w : WTgs) : Prop where
  ex : ∃ t, PGs X tgs t ∧ SndGs L t w
/-- slot i holds data -/
theorem Env.put {D0 : Addr → Bool} {S : Slots} {σ : St} {C : Hp} {o : Ow} {v : V} {d : PyData} (E : Env D0 S σ C o) (i : Nat) (hr : Rp (vw D0 o C) v d) : Env D0 (S.set i (.im d)) (σ.set i (some v)) C o := by
  refine ⟨by rw [List.length_set, List.length_set]; exact E.len, E.live, E.dead, fun j s h => ?_⟩
  by_cases e : i = j
  · subst e
    have hi : i < S.length := by
      have := List.getElem?_eq_some_iff.mp h
      obtain ⟨h1, _⟩ := this
      rw [List.length_set] at h1
      exact h1
    rw [List.getElem?_set_self hi] at h
    cases h
    exact ⟨v, by rw [List.getElem?_set_self (by rw [E.len]; exact hi)], hr⟩
  · rw [List.getElem?_set_ne e] at h ⊢
    exact E.sl j s h
def wN (i : Nat) : WTg := fun d c S K => (c ∨ flat d = true) ∧ K (S.set i (.im d))
theorem sg_n (i : Nat) {x : Str} {p : Pos} (nd : X.N.Nodup) (hi : X.N[i]? = some x := by rfl) (hx : Loc X.env.scope x := by first | exact Or.inl rfl | exact Or.inr rfl) (hf : X.fn x = true ∨ X.env.scope.names.lookup x = some .local := by first | exact .inl rfl | exact .inr rfl) : SG X (.Name x p) [i] (wN i) := by
  refine ⟨_, pg_name nd hi hx hf, ?_⟩
  intro D0 S σ H o v d c K Q E V hw k
  refine k _ _ hw.2 (E.put i ((V.flat E).2 hw.1)) ⟨by rw [List.length_set], fun j hj => ?_, fun j hj => ?_⟩
  · rw [List.getElem?_set_ne (fun z => hj (by rw [z]; exact List.mem_cons_self))]
  · rw [List.getElem?_set_ne (fun z => hj (by rw [z]; exact List.mem_cons_self))]
def wGNil : WTgs := fun ds _ S K => ds = [] ∧ K S
def wGCons (w : WTg) (ws : WTgs) : WTgs := fun ds c S K => match ds with
  | d :: r => w d c S fun S1 => ws r c S1 K
  | [] => False
theorem sgs_nil : SGs X [] [] wGNil := ⟨_, pgs_nil, fun D0 S σ H o vs ds c K Q E V hw k => by
  obtain ⟨rfl, hw⟩ := hw
  have e := V.1.length
  exact ⟨List.eq_nil_of_length_eq_zero e, k _ _ hw E (Kept.refl _ _ _)⟩⟩
theorem sgs_cons {t : Expr} {ts : List Expr} {L M : List Nat} {w : WTg} {ws : WTgs} (h1 : SG X t L w) (h2 : SGs X ts M ws)
    (hs : (assignEach (t :: ts) X.env).map (·.2) = assign t X.env :: (assignEach ts X.env).map (·.2) := by rfl) : SGs X (t :: ts) (L ++ M) (wGCons w ws) := by
  obtain ⟨g, pg, sg⟩ := h1.ex
  obtain ⟨gs, pgs, sgs⟩ := h2.ex
  refine ⟨_, pgs_cons pg pgs hs, ?_⟩
  intro D0 S σ H o vs ds c K Q E V hw k
  unfold wGCons at hw
  split at hw
  · rename_i d r
    obtain ⟨V1, V2⟩ := V
    cases V1 with
    | cons a b =>
      refine ⟨_, _, rfl, ?_⟩
      refine sg D0 S σ H o _ d c _ _ E ⟨a, fun z => by cases V2 z with | cons a' b' => exact a'⟩ hw fun S1 σ1 h1 E1 k1 => ?_
      exact sgs D0 S1 σ1 H o _ r c K Q E1 ⟨b, fun z => by cases V2 z with | cons a' b' => exact b'⟩ h1 fun S2 σ2 h2 E2 k2 => k S2 σ2 h2 E2 (k1.trans k2)
  · exact hw.elim
def wGT (n : Nat) (ws : WTgs) : WTg := fun d c S K => match d with
  | .tuple ds => ds.length = n ∧ ws ds (c ∨ flats ds = true) S K
  | _ => False
theorem sg_t {es : List Expr} {n kk : Nat} {L : List Nat} {ws : WTgs} (hc : X.calm = true) (h : SGs X es L ws)
    (hn : (assignEach es X.env).length = n := by rfl) (hst : (assignEach es X.env).findIdx? (·.1) = none := by rfl) : SG X (.Tuple es kk pos) L (wGT n ws) := by
  obtain ⟨g, pg, sg⟩ := h.ex
  refine ⟨_, pg_tup hc pg hn hst, ?_⟩
  intro D0 S σ H o v d c K Q E V hw k
  unfold wGT at hw
  split at hw
  · obtain ⟨a, vs, rfl, e, r, rc⟩ := V.titems E
    exact ⟨a, vs, rfl, SqT.at e, by rw [r.length]; exact hw.1, sg D0 S σ H o vs _ _ K Q E ⟨r, rc⟩ hw.2 k⟩
  · exact hw.elim
end
end Pu

namespace Pu
open PySem L2

/-! ### what is walked -/
/-- the walk J goes through the data ds; Z: what it stands on -/
structure Wk (J : It) (ds : List PyData) (c : Prop) (Z : (Addr → Bool) → Ow → Hp → Prop) : Prop where
  go : ∀ D0 o H i, Z D0 o H → i < ds.length → J.go i H
  stop : ∀ D0 o H, Z D0 o H → J.stop ds.length H
  yld : ∀ D0 S σ o H i x H' d, Z D0 o H → Env D0 S σ (co H) o → ds[i]? = some d → J.yld i H x H' → Le H H' ∧ Val D0 o H' x d c
  xe : ∀ D0 D0' o H H', Z D0 o H → Le (vt D0 o (co H)) (vt D0' o (co H')) → Le (vw D0 o (co H)) (vw D0' o (co H')) → Z D0' o H'
  fr : ∀ D0 o H o' H', c → Z D0 o H → Le (vw D0 o (co H)) (vw D0 o' (co H')) → Z D0 o' H'
def SndI (W : WM) (wi : TI) (w : WLs) : Prop := ∀ (D0 : Addr → Bool) (S : Slots) (σ : St) (H : Hp) (o : Ow) (A : List PyData → Prop → Slots → Prop) (B : EK) (R : It → Hp → Prop), Env D0 S σ (co H) o → w S A B →
  (∀ ds c S' J H' Z, A ds c S' → Env D0 S' σ (co H') o → XE o H H' → Wk J ds c Z → Z D0 o H' → R J H') → Xw W D0 σ o H B → wi σ H R
structure SI (X : Cx) (W : WM) (tg e : Expr) (w : WLs) : Prop where
  ex : ∃ wi, PI X tg e wi ∧ SndI W wi w

section
variable {X : Cx} {W : WM} {k : Nat} {pos : Pos}
def zL (a : Addr) (ds : List PyData) (c : Prop) : (Addr → Bool) → Ow → Hp → Prop := fun D0 o H => Rp (vt D0 o (co H)) (.ref a) (.list ds) ∧ (c → Rp (vw D0 o (co H)) (.ref a) (.list ds))
def zT (a : Addr) (ds : List PyData) (c : Prop) : (Addr → Bool) → Ow → Hp → Prop := fun D0 o H => Rp (vt D0 o (co H)) (.ref a) (.tuple ds) ∧ (c → Rp (vw D0 o (co H)) (.ref a) (.tuple ds))
theorem wk_list {K : PySem.W.Frag} {a : Addr} {ds : List PyData} {c : Prop} : Wk (Itl K a) ds c (zL a ds c) where
  go := fun D0 o H i z hi => by
    obtain ⟨b, vs, e, h, r⟩ := rp_lst z.1
    cases e
    have hi' : i < vs.length := by rw [r.length]; exact hi
    exact ⟨vs, vs[i], SqL.at (co_lst (vt_le _ _ h)), by rw [List.getElem?_eq_getElem hi']⟩
  stop := fun D0 o H z => by
    obtain ⟨b, vs, e, h, r⟩ := rp_lst z.1
    cases e
    exact ⟨vs, SqL.at (co_lst (vt_le _ _ h)), by rw [r.length]; exact Nat.le_refl _⟩
  yld := fun D0 S σ o H i x H' d z E hd y => by
    obtain ⟨rfl, y⟩ := y
    obtain ⟨b, vs, e, h, r⟩ := rp_lst z.1
    cases e
    have hx := y vs (SqL.at (co_lst (vt_le _ _ h)))
    obtain ⟨v, h1, h2⟩ := r.get hd
    rw [hx] at h1
    cases h1
    refine ⟨Le.refl _, h2, fun hc => ?_⟩
    obtain ⟨b', vs', e', h', r'⟩ := rp_lst (z.2 hc)
    cases e'
    have e2 := co_lst (vt_le _ _ h)
    have e3 := co_lst (vw_le _ _ h')
    rw [e2] at e3
    cases e3
    obtain ⟨v', h1', h2'⟩ := r'.get hd
    rw [hx] at h1'
    cases h1'
    exact h2'
  xe := fun D0 D0' o H H' z l1 l2 => ⟨z.1.mono l1, fun hc => (z.2 hc).mono l2⟩
  fr := fun D0 o H o' H' hc z l => ⟨((z.2 hc).mono l).mono vw_le_vt, fun _ => (z.2 hc).mono l⟩
theorem wk_tup {K : PySem.W.Frag} {a : Addr} {ds : List PyData} {c : Prop} : Wk (Itt K a) ds c (zT a ds c) where
  go := fun D0 o H i z hi => by
    obtain ⟨b, vs, e, h, r⟩ := rp_tup z.1
    cases e
    have hi' : i < vs.length := by rw [r.length]; exact hi
    exact ⟨vs, vs[i], SqT.at (co_tup (vt_le _ _ h)), by rw [List.getElem?_eq_getElem hi']⟩
  stop := fun D0 o H z => by
    obtain ⟨b, vs, e, h, r⟩ := rp_tup z.1
    cases e
    exact ⟨vs, SqT.at (co_tup (vt_le _ _ h)), by rw [r.length]; exact Nat.le_refl _⟩
  yld := fun D0 S σ o H i x H' d z E hd y => by
    obtain ⟨rfl, y⟩ := y
    obtain ⟨b, vs, e, h, r⟩ := rp_tup z.1
    cases e
    have hx := y vs (SqT.at (co_tup (vt_le _ _ h)))
    obtain ⟨v, h1, h2⟩ := r.get hd
    rw [hx] at h1
    cases h1
    refine ⟨Le.refl _, h2, fun hc => ?_⟩
    obtain ⟨b', vs', e', h', r'⟩ := rp_tup (z.2 hc)
    cases e'
    have e2 := co_tup (vt_le _ _ h)
    have e3 := co_tup (vw_le _ _ h')
    rw [e2] at e3
    cases e3
    obtain ⟨v', h1', h2'⟩ := r'.get hd
    rw [hx] at h1'
    cases h1'
    exact h2'
  xe := fun D0 D0' o H H' z l1 l2 => ⟨z.1.mono l1, fun hc => (z.2 hc).mono l2⟩
  fr := fun D0 o H o' H' hc z l => ⟨((z.2 hc).mono l).mono vw_le_vt, fun _ => (z.2 hc).mono l⟩
def rangeD (lo : Int) (n : Nat) : List PyData := (List.range n).map fun (i : Nat) => PyData.int (lo + (i : Int))
theorem rangeD_get {lo : Int} {n i : Nat} {d : PyData} (h : (rangeD lo n)[i]? = some d) : i < n ∧ d = .int (lo + (i : Int)) := by
  unfold rangeD at h
  rw [List.getElem?_map] at h
  by_cases hi : i < n
  · rw [List.getElem?_range hi] at h
    exact ⟨hi, (Option.some.inj h).symm⟩
  · rw [List.getElem?_eq_none (by rw [List.length_range]; omega)] at h
    cases h
theorem wk_range {lo : Int} {n : Nat} : Wk (Itr lo n) (rangeD lo n) True (fun _ _ _ => True) where
  go := fun D0 o H i _ hi => by
    have e : (rangeD lo n).length = n := by unfold rangeD; rw [List.length_map, List.length_range]
    show i < n
    omega
  stop := fun D0 o H _ => by
    have e : (rangeD lo n).length = n := by unfold rangeD; rw [List.length_map, List.length_range]
    show n ≤ (rangeD lo n).length
    omega
  yld := fun D0 S σ o H i x H' d _ E hd y => by
    obtain ⟨rfl, rfl⟩ := y
    obtain ⟨_, rfl⟩ := rangeD_get hd
    exact ⟨Le.refl _, Val.of (.int _)⟩
  xe := fun _ _ _ _ _ _ _ _ => trivial
  fr := fun _ _ _ _ _ _ _ _ => trivial
def wIL (wl : WEx) : WLs := fun S A B => wl S (fun d c S1 => match d with
  | .list ds => A ds c S1
  | _ => False) B
def wIT (wl : WEx) : WLs := fun S A B => wl S (fun d c S1 => match d with
  | .tuple ds => A ds (c ∨ flats ds = true) S1
  | _ => False) B
theorem si_l {tg e : Expr} {we : WEx} (he : SE X W e we) : SI X W tg e (wIL we) := by
  obtain ⟨te, pe, se⟩ := he.ex
  refine ⟨_, pi_list pe, ?_⟩
  intro D0 S σ H o A B R E hw k kx
  refine se D0 S σ H o _ B _ E hw (fun d c S1 v H1 h1 E1 x1 V1 => ?_) kx
  split at h1
  · obtain ⟨a, vs, rfl, e, r, _⟩ := V1.items E1
    exact ⟨a, rfl, ⟨vs, SqL.at e⟩, k _ c S1 _ H1 _ h1 E1 x1 wk_list ⟨V1.1, V1.2⟩⟩
  · exact h1.elim
theorem si_t {tg e : Expr} {we : WEx} (he : SE X W e we) : SI X W tg e (wIT we) := by
  obtain ⟨te, pe, se⟩ := he.ex
  refine ⟨_, pi_tup pe, ?_⟩
  intro D0 S σ H o A B R E hw k kx
  refine se D0 S σ H o _ B _ E hw (fun d c S1 v H1 h1 E1 x1 V1 => ?_) kx
  split at h1
  · have V2 := V1.flat E1
    obtain ⟨a, vs, rfl, e, r, _⟩ := V1.titems E1
    exact ⟨a, rfl, ⟨vs, SqT.at e⟩, k _ _ S1 _ H1 _ h1 E1 x1 wk_tup ⟨V2.1, fun z => V2.2 (z.elim .inl fun f => .inr (by rw [flat]; exact f))⟩⟩
  · exact h1.elim
def wR1 (wa : WLs) : WLs := fun S A B => wa S (fun ds _ S1 => match ds with
  | [.int n] => -(2 ^ 62) ≤ n ∧ n < 2 ^ 62 ∧ A (rangeD 0 n.toNat) True S1
  | _ => False) B
def wR2 (wa : WLs) : WLs := fun S A B => wa S (fun ds _ S1 => match ds with
  | [.int i, .int j] => (-(2 ^ 62) ≤ i ∧ i < 2 ^ 62 ∧ -(2 ^ 62) ≤ j ∧ j < 2 ^ 62) ∧ A (rangeD i (j - i).toNat) True S1
  | _ => False) B
theorem si_r1 {tg a : Expr} {p : Pos} {wa : WLs} (hm : X.mg "range" = none) (ha : SA X W [a] wa) (hg : Gl X "range" := by rfl) (hs : starEach [a] X.env = [(false, eval a X.env)] := by rfl) : SI X W tg (.Call (.Name "range" p) [a] [] pos) (wR1 wa) := by
  obtain ⟨ta, pa, sa⟩ := ha.ex
  refine ⟨_, pi_range1 hg hm pa hs, ?_⟩
  intro D0 S σ H o A B R E hw k kx
  refine sa D0 S σ H o _ B _ E hw (fun ds c S1 vs H1 hl h1 E1 x1 V1 => ?_) kx
  split at h1
  · obtain ⟨h2, h3, h4⟩ := h1
    obtain ⟨V1, _⟩ := V1
    cases V1 with
    | cons a b =>
      cases a
      cases b
      exact ⟨_, rfl, h2, h3, k _ _ S1 _ H1 _ h4 E1 x1 wk_range trivial⟩
  · exact h1.elim
theorem si_r2 {tg a b : Expr} {p : Pos} {wa : WLs} (hm : X.mg "range" = none) (ha : SA X W [a, b] wa) (hg : Gl X "range" := by rfl) (hs : starEach [a, b] X.env = [(false, eval a X.env), (false, eval b X.env)] := by rfl) (hs2 : starEach [b] X.env = [(false, eval b X.env)] := by rfl) : SI X W tg (.Call (.Name "range" p) [a, b] [] pos) (wR2 wa) := by
  obtain ⟨ta, pa, sa⟩ := ha.ex
  refine ⟨_, pi_range2 hg hm pa hs hs2, ?_⟩
  intro D0 S σ H o A B R E hw k kx
  refine sa D0 S σ H o _ B _ E hw (fun ds c S1 vs H1 hl h1 E1 x1 V1 => ?_) kx
  split at h1
  · obtain ⟨h2, h4⟩ := h1
    obtain ⟨V1, _⟩ := V1
    cases V1 with
    | cons a b =>
      cases a
      cases b with
      | cons a b =>
        cases a
        cases b
        exact ⟨_, _, rfl, h2, k _ _ S1 _ H1 _ h4 E1 x1 wk_range trivial⟩
  · exact h1.elim

/-! ### comprehensions -/
def wipeS (S : Slots) : List Nat → Slots
  | [] => S
  | v :: vs => (wipeS S vs).set v .un
def noX : EK := fun _ _ => False
def lcL (wg : WTg) (wt : WTx) (we : WEx) (c : Prop) (S : Slots) : List PyData → List PyData → Prop → (List PyData → Prop → Prop) → Prop
  | [], acc, ca, K => K acc ca
  | d :: r, acc, ca, K => wg d c S fun S1 => wt S1 (fun b S2 => S2 = S1 ∧ if b = true then we S1 (fun e ce S3 => S3 = S1 ∧ acc.length < sizeLine ∧ lcL wg wt we c S r (acc ++ [e]) (ca ∧ (ce ∨ flat e = true)) K) noX else lcL wg wt we c S r acc ca K) noX
def notRng : Option Slot → Bool
  | some s => !isMut s
  | none => true
def wLc (wi : WLs) (wg : WTg) (wt : WTx) (we : WEx) (vs : List Nat) : WLs := fun S A B => wi S (fun ds c S1 => (vs.all fun j => notRng S1[j]?) = true ∧ lcL wg wt we c (wipeS S1 vs) ds [] True fun acc ca => A acc ca S1) B
theorem wipe_get {σ : St} {j : Nat} : ∀ {vs : List Nat}, j ∉ vs → (wipe σ vs)[j]? = σ[j]?
  | [], _ => rfl
  | v :: vs, h => by
    unfold wipe
    rw [List.getElem?_set_ne (fun z => h (by rw [z]; exact List.mem_cons_self))]
    exact wipe_get fun z => h (List.mem_cons_of_mem _ z)
theorem wipeS_get {S : Slots} {j : Nat} : ∀ {vs : List Nat}, j ∉ vs → (wipeS S vs)[j]? = S[j]?
  | [], _ => rfl
  | v :: vs, h => by
    unfold wipeS
    rw [List.getElem?_set_ne (fun z => h (by rw [z]; exact List.mem_cons_self))]
    exact wipeS_get fun z => h (List.mem_cons_of_mem _ z)
theorem wipe_in {σ : St} {j : Nat} : ∀ {vs : List Nat}, j ∈ vs → (wipe σ vs)[j]? = if j < σ.length then some none else none
  | v :: vs, h => by
    unfold wipe
    rw [List.getElem?_set, wipe_length]
    by_cases e : v = j
    · subst e
      rw [if_pos rfl]
    · rw [if_neg e]
      exact wipe_in (by
        rcases List.mem_cons.mp h with z | z
        · exact absurd z.symm e
        · exact z)
theorem wipe_ext {σ σ' : St} {vs : List Nat} (hl : σ'.length = σ.length) (h : ∀ j, j ∉ vs → σ'[j]? = σ[j]?) : wipe σ' vs = wipe σ vs := by
  refine List.ext_getElem? fun j => ?_
  by_cases hj : j ∈ vs
  · rw [wipe_in hj, wipe_in hj, hl]
  · rw [wipe_get hj, wipe_get hj]
    exact h j hj
theorem Env.un {D0 : Addr → Bool} {S : Slots} {σ : St} {C : Hp} {o : Ow} (E : Env D0 S σ C o) (i : Nat) : Env D0 (S.set i .un) (σ.set i none) C o := by
  refine ⟨by rw [List.length_set, List.length_set]; exact E.len, E.live, E.dead, fun j s h => ?_⟩
  by_cases e : i = j
  · subst e
    have hi : i < S.length := by
      obtain ⟨h1, _⟩ := List.getElem?_eq_some_iff.mp h
      rw [List.length_set] at h1
      exact h1
    rw [List.getElem?_set_self hi] at h
    cases h
    trivial
  · rw [List.getElem?_set_ne e] at h ⊢
    exact E.sl j s h
theorem Env.wipe {D0 : Addr → Bool} {S : Slots} {σ : St} {C : Hp} {o : Ow} (E : Env D0 S σ C o) : ∀ vs : List Nat, Env D0 (wipeS S vs) (L2.wipe σ vs) C o
  | [] => E
  | v :: vs => (E.wipe vs).un v
/-- the frame as it stood ahead, its sources of draws as they stand now -/
theorem Env.back {D0 : Addr → Bool} {S S1 : Slots} {σ σ1 : St} {H H' : Hp} {o : Ow} (E : Env D0 S σ (co H) o) (E1 : Env D0 S1 σ1 (co H') o) (x : XE o H H') (hr : ∀ (j : Nat) (s : Slot), S[j]? = some s → isMut s = true → S1[j]? = some s ∧ σ1[j]? = σ[j]?) : Env D0 S σ (co H') o := by
  refine ⟨E.len, E1.live, E1.dead, fun i s e => ?_⟩
  have q := E.sl i s e
  have cx : ∀ a u, mutO (o a) = false → co H a = some u → co H' a = some u := fun a u hm h => by
    unfold co at h ⊢
    cases z : H a with
    | none => rw [z] at h; cases h
    | some y => rw [x a y hm z]; rw [z] at h; exact h
  cases hm : isMut s with
  | true =>
    obtain ⟨h1, h2⟩ := hr i s e hm
    have q1 := E1.sl i _ h1
    rw [h2] at q1
    exact q1
  | false =>
    cases s with
    | un => trivial
    | im d => obtain ⟨v, h1, h2⟩ := q; exact ⟨v, h1, h2.mono x.vw⟩
    | ol xs => obtain ⟨a, vs, h1, h2, h3, h4⟩ := q; exact ⟨a, vs, h1, h2, cx _ _ (by rw [h2]; rfl) h3, h4.mono x.vw⟩
    | od es =>
      obtain ⟨a, h1, h2, h3⟩ := q
      refine ⟨a, h1, h2, ?_⟩
      rcases h3 with ⟨kvs, h3, h4⟩ | ⟨kvs, h3, h4⟩
      · exact .inl ⟨kvs, cx _ _ (by rw [h2]; rfl) h3, h4.mono x.vw⟩
      · exact .inr ⟨kvs, cx _ _ (by rw [h2]; rfl) h3, h4.mono x.vw⟩
    | ex a dd fs => exact ⟨q.1, fun p hp => x.vw _ _ (q.2 p hp)⟩
    | rng a c => cases hm
    | ob c fs => cases hm
/-- the heap less one object -/
def rm (H : Hp) (D : Addr) : Hp := fun a => if a = D then none else H a
theorem rm_le {H : Hp} {D : Addr} : Le (rm H D) H := fun a u h => by
  unfold rm at h
  split at h
  · cases h
  · exact h
theorem rm_at {H : Hp} {D : Addr} : rm H D D = none := if_pos rfl
theorem rm_ne {H : Hp} {D a : Addr} (h : a ≠ D) : rm H D a = H a := if_neg h
theorem upd_rm {H : Hp} {D : Addr} {u : HO} (h : H D = some u) : upd (rm H D) D u = H := by
  funext a
  unfold upd rm
  by_cases e : a = D
  · rw [if_pos e, e, h]
  · rw [if_neg e, if_neg e]
/-- the object at D is hidden besides -/
def plus (D0 : Addr → Bool) (D : Addr) : Addr → Bool := fun a => D0 a || decide (a = D)
theorem plus_ne {D0 : Addr → Bool} {D a : Addr} (h : a ≠ D) : plus D0 D a = D0 a := by unfold plus; rw [decide_eq_false h, Bool.or_false]
theorem plus_at {D0 : Addr → Bool} {D : Addr} : plus D0 D D = true := by unfold plus; rw [decide_eq_true rfl, Bool.or_true]
theorem vt_plus {D0 : Addr → Bool} {o : Ow} {H : Hp} {D : Addr} : vt (plus D0 D) o (co H) = vt D0 o (co (rm H D)) := by
  funext a
  unfold vt
  by_cases e : a = D
  · subst e
    rw [plus_at, Bool.true_or, if_pos rfl]
    split
    · rfl
    · exact (co_none.mpr rm_at).symm
  · rw [plus_ne e]
    have : co (rm H D) a = co H a := by unfold co; rw [rm_ne e]
    rw [this]
theorem vw_plus {D0 : Addr → Bool} {o : Ow} {H : Hp} {D : Addr} : vw (plus D0 D) o (co H) = vw D0 o (co (rm H D)) := by
  funext a
  unfold vw
  by_cases e : a = D
  · subst e
    rw [plus_at, Bool.true_or, if_pos rfl]
    split
    · rfl
    · exact (co_none.mpr rm_at).symm
  · rw [plus_ne e]
    have : co (rm H D) a = co H a := by unfold co; rw [rm_ne e]
    rw [this]
theorem SlotOk.hide {D0 : Addr → Bool} {o : Ow} {H : Hp} {D : Addr} {i : Nat} {x : Option (Option V)} {s : Slot} (hD : o D = none) (h : SlotOk D0 (co (rm H D)) o i x s) : SlotOk (plus D0 D) (co H) o i x s := by
  have le : Le (co (rm H D)) (co H) := (rm_le (H := H) (D := D)).co
  exact h.move (by rw [vw_plus]; exact Le.refl _) fun a b u h1 h2 => ⟨h1, le _ _ h2⟩
theorem SlotOk.show_ {D0 : Addr → Bool} {o : Ow} {H : Hp} {D : Addr} {i : Nat} {x : Option (Option V)} {s : Slot} (hD : o D = none) (h : SlotOk (plus D0 D) (co H) o i x s) : SlotOk D0 (co (rm H D)) o i x s := by
  have ne : ∀ {a : Addr} {p : Nat × Bool}, o a = some p → a ≠ D := fun {a p} e z => by rw [z, hD] at e; cases e
  have at_ : ∀ {a : Addr} {u : HO}, a ≠ D → co H a = some u → co (rm H D) a = some u := fun {a u} n e => by
    have : co (rm H D) a = co H a := by unfold co; rw [rm_ne n]
    rw [this]; exact e
  exact h.move (by rw [vw_plus]; exact Le.refl _) fun a b u h1 h2 => ⟨h1, at_ (ne h1) h2⟩
/-- D, an object of our own making, is hidden; is shown no more -/
theorem Env.hide {D0 : Addr → Bool} {S : Slots} {σ : St} {H : Hp} {o : Ow} {D : Addr} {u : HO} (E : Env D0 S σ (co (rm H D)) o) (h : H D = some u) (hu : isTup (core u) = false) : Env (plus D0 D) S σ (co H) o := by
  have hD := (E.new (p := D) rm_at)
  have le : Le (co (rm H D)) (co H) := (rm_le (H := H) (D := D)).co
  refine ⟨E.len, fun a p e => ?_, fun a e => ?_, fun i s e => (E.sl i s e).hide hD.2⟩
  · obtain ⟨h1, w', h2, h3⟩ := E.live a p e
    have ne : a ≠ D := fun z => by rw [z, hD.2] at e; cases e
    exact ⟨by rw [plus_ne ne]; exact h1, w', le _ _ h2, h3⟩
  · by_cases z : a = D
    · subst z
      exact ⟨_, co_of h, hu⟩
    · rw [plus_ne z] at e
      obtain ⟨w', h2, h3⟩ := E.dead a e
      exact ⟨w', le _ _ h2, h3⟩
theorem Env.show_ {D0 : Addr → Bool} {S : Slots} {σ : St} {H : Hp} {o : Ow} {D : Addr} (hD0 : D0 D = false) (hD : o D = none) (E : Env (plus D0 D) S σ (co H) o) : Env D0 S σ (co (rm H D)) o := by
  have at_ : ∀ {a : Addr} {u : HO}, a ≠ D → co H a = some u → co (rm H D) a = some u := fun {a u} n e => by
    have : co (rm H D) a = co H a := by unfold co; rw [rm_ne n]
    rw [this]; exact e
  refine ⟨E.len, fun a p e => ?_, fun a e => ?_, fun i s e => (E.sl i s e).show_ hD⟩
  · obtain ⟨h1, w', h2, h3⟩ := E.live a p e
    have ne : a ≠ D := fun z => by rw [z, hD] at e; cases e
    exact ⟨by rw [plus_ne ne] at h1; exact h1, w', at_ ne h2, h3⟩
  · have ne : a ≠ D := fun z => by rw [z, hD0] at e; cases e
    obtain ⟨w', h2, h3⟩ := E.dead a (by rw [plus_ne ne]; exact e)
    exact ⟨w', at_ ne h2, h3⟩
end
end Pu

namespace Pu
open PySem L2

/-! ### the weakest readings -/
def tW (W : WM) (w : WEx) : TE := fun σ H Q => ∃ (D0 : Addr → Bool) (S : Slots) (o : Ow) (A : PyData → Prop → Slots → Prop) (B : EK), Env D0 S σ (co H) o ∧ w S A B ∧
  (∀ d c S' v H', A d c S' → Env D0 S' σ (co H') o → XE o H H' → Val D0 o H' v d c → Q v H') ∧ Xw W D0 σ o H B
theorem tW_snd {W : WM} {w : WEx} : Snd W (tW W w) w := fun D0 S σ H o A B Q E hw k kx => ⟨D0, S, o, A, B, E, hw, k, kx⟩
theorem SE.pe {X : Cx} {W : WM} {e : Expr} {w : WEx} (h : SE X W e w) : PE X e (tW W w) := by
  obtain ⟨t, p, s⟩ := h.ex
  exact ⟨fun pins sh σ H Q I ⟨D0, S, o, A, B, E, hw, k, kx⟩ => p.run pins sh σ H Q I (s D0 S σ H o A B Q E hw k kx)⟩
def tTW (W : WM) (w : WTx) : TT := fun σ H Q => ∃ (D0 : Addr → Bool) (S : Slots) (o : Ow) (A : Bool → Slots → Prop) (B : EK), Env D0 S σ (co H) o ∧ w S A B ∧
  (∀ b S' H', A b S' → Env D0 S' σ (co H') o → XE o H H' → Q b H') ∧ Xw W D0 σ o H B
theorem tTW_snd {W : WM} {w : WTx} : SndT W (tTW W w) w := fun D0 S σ H o A B Q E hw k kx => ⟨D0, S, o, A, B, E, hw, k, kx⟩
theorem ST.pt {X : Cx} {W : WM} {e : Expr} {w : WTx} (h : ST X W e w) : PT X e (tTW W w) := by
  obtain ⟨t, p, s⟩ := h.ex
  exact ⟨fun pins sh σ H Q I ⟨D0, S, o, A, B, E, hw, k, kx⟩ => p.run pins sh σ H Q I (s D0 S σ H o A B Q E hw k kx)⟩
structure STs (X : Cx) (W : WM) (es : List Expr) (w : WTx) : Prop where
  ex : ∃ t, PTs X es t ∧ SndT W t w
theorem STs.pt {X : Cx} {W : WM} {es : List Expr} {w : WTx} (h : STs X W es w) : PTs X es (tTW W w) := by
  obtain ⟨t, p, s⟩ := h.ex
  exact ⟨fun pins sh σ H Q I ⟨D0, S, o, A, B, E, hw, k, kx⟩ => p.run pins sh σ H Q I (s D0 S σ H o A B Q E hw k kx)⟩
def wYes : WTx := fun S A _ => A true S
theorem sts_nil {X : Cx} {W : WM} : STs X W [] wYes := ⟨_, pts_nil, fun D0 S σ H o A B Q E hw k kx => k _ _ H hw E (XE.refl o H)⟩
theorem sts_one {X : Cx} {W : WM} {e : Expr} {w : WTx} (h : ST X W e w) : STs X W [e] w := by
  obtain ⟨t, p, s⟩ := h.ex
  exact ⟨_, pts_one p, s⟩
def gW (L : List Nat) (w : WTg) : TG := fun v σ H Q => ∃ (D0 : Addr → Bool) (S : Slots) (o : Ow) (d : PyData) (c : Prop) (K : Slots → Prop), Env D0 S σ (co H) o ∧ Val D0 o H v d c ∧ w d c S K ∧
  (∀ S' σ', K S' → Env D0 S' σ' (co H) o → Kept L S σ S' σ' → Q σ' H)
theorem gW_snd {L : List Nat} {w : WTg} : SndG L (gW L w) w := fun D0 S σ H o v d c K Q E V hw k => ⟨D0, S, o, d, c, K, E, V, hw, k⟩
theorem SG.pg {X : Cx} {tg : Expr} {L : List Nat} {w : WTg} (h : SG X tg L w) : PG X tg (gW L w) := by
  obtain ⟨t, p, s⟩ := h.ex
  exact ⟨fun pins sh σ H v u Q I r ⟨D0, S, o, d, c, K, E, V, hw, k⟩ => p.run pins sh σ H v u Q I r (s D0 S σ H o v d c K Q E V hw k)⟩

section
variable {X : Cx} {W : WM} {k : Nat} {pos : Pos}
abbrev WN (mg : Str → Option Value) : WM := ⟨mg, fun _ _ _ _ => False⟩
theorem Xw.no {mg : Str → Option Value} {D0 : Addr → Bool} {σ : St} {o : Ow} {H : Hp} : Xw (WN mg) D0 σ o H noX := fun _ _ _ _ _ h => h.elim
/-- within a comprehension's block nothing is raised -/
theorem At.blk (a : At X W k) (s : Shared) (H : Hp) (scope : Scope) (env : PySem.Env) (fp : List Addr) : At (X.blk s H scope env fp) (WN X.mg) k where
  room := a.room
  calm := a.calm
  tx := takes0
  mq := rfl
  nd := a.nd
  po := PassesOwn.never
theorem rm_upd {H : Hp} {D : Addr} {u : HO} : rm (upd H D u) D = rm H D := by
  funext a
  unfold rm upd
  by_cases e : a = D
  · rw [if_pos e, if_pos e]
  · rw [if_neg e, if_neg e, if_neg e]
theorem rm_none {H : Hp} {D : Addr} (h : H D = none) : rm H D = H := by
  funext a
  unfold rm
  by_cases e : a = D
  · rw [if_pos e, e, h]
  · rw [if_neg e]
theorem XE.rm {o : Ow} {H H' : Hp} {D : Addr} (h : XE o H H') : XE o (rm H D) (rm H' D) := fun a u m e => by
  unfold Pu.rm at e ⊢
  split at e
  · cases e
  · rename_i n
    rw [if_neg n]
    exact h a u m e
theorem snd_lc {mg : Str → Option Value} {twi : TI} {L vs : List Nat} {wi : WLs} {wg : WTg} {wt : WTx} {we : WEx} (swi : SndI W twi wi) (hL : ∀ j ∈ L, j ∈ vs) : SndO W (tLc twi (gW L wg) (tTW (WN mg) wt) (tW (WN mg) we) vs) (wLc wi wg wt we vs) := by
  intro D0 S σ H o A B Q E hw kk kx
  refine swi D0 S σ H o _ B _ E hw (fun ds c S1 J H1 Z h1 E1 x1 wk z1 => ?_) kx
  obtain ⟨hnr, h1⟩ := h1
  intro D hD
  have oD := (E1.new hD).2
  have dD := (E1.new hD).1
  have upW : ∀ {H' : Hp}, Z D0 o (rm H' D) → Z (plus D0 D) o H' := fun {H'} z => wk.xe _ _ _ _ _ z (by rw [vt_plus]; exact Le.refl _) (by rw [vw_plus]; exact Le.refl _)
  refine ⟨fun i m H' => m = ds.length - i ∧ i ≤ ds.length ∧ ∃ (acc : List PyData) (ca : Prop) (us : List V), H' D = some (.lst us) ∧ Vals' D0 o (rm H' D) us acc ca ∧ lcL wg wt we c (wipeS S1 vs) (ds.drop i) acc ca (fun acc ca => A acc ca S1) ∧ Env D0 S1 σ (co (rm H' D)) o ∧ XE o H1 (rm H' D) ∧ Z D0 o (rm H' D),
    ⟨ds.length, by simp, Nat.zero_le _, [], True, [], upd_same, ⟨.nil, fun _ => .nil⟩, h1, by rw [rm_upd, rm_none hD]; exact E1, by rw [rm_upd, rm_none hD]; exact XE.refl _ _, by rw [rm_upd, rm_none hD]; exact z1⟩, ?_⟩
  rintro i m H2 ⟨rfl, hi, acc, ca, us, eD, Vv, hl, E2, x2, z2⟩
  have hide2 : Env (plus D0 D) S1 σ (co H2) o := E2.hide eD rfl
  by_cases hlt : i < ds.length
  · right
    refine ⟨wk.go _ _ _ _ (upW z2) hlt, fun H' => i + 1 ≤ ds.length ∧ ∃ (acc : List PyData) (ca : Prop) (us : List V), H' D = some (.lst us) ∧ Vals' D0 o (rm H' D) us acc ca ∧ lcL wg wt we c (wipeS S1 vs) (ds.drop (i + 1)) acc ca (fun acc ca => A acc ca S1) ∧ Env D0 S1 σ (co (rm H' D)) o ∧ XE o H1 (rm H' D) ∧ Z D0 o (rm H' D),
      fun H' hN => ⟨ds.length - (i + 1), by omega, rfl, hN⟩, fun x H3 hy => ?_⟩
    have hd : ds[i]? = some ds[i] := List.getElem?_eq_getElem hlt
    obtain ⟨le3, Vx⟩ := wk.yld (plus D0 D) S1 σ o H2 i x H3 ds[i] (upW z2) hide2 hd hy
    have E3 : Env (plus D0 D) S1 σ (co H3) o := hide2.xe le3
    rw [List.drop_eq_getElem_cons hlt] at hl
    unfold lcL at hl
    refine gW_snd (plus D0 D) _ _ H3 o x ds[i] c _ _ (E3.wipe vs) Vx hl fun S4 σ4 h4 E4 k4 => ?_
    have outL : ∀ j, j ∉ vs → j ∉ L := fun j hj z => hj (hL j z)
    refine ⟨by
      have e : L2.wipe σ4 vs = L2.wipe (L2.wipe σ vs) vs := wipe_ext k4.ln fun j hj => k4.st j (outL j hj)
      rw [e]
      exact wipe_ext (wipe_length _ _) fun j hj => wipe_get hj, ?_⟩
    -- what is to hold behind a turn
    have fin : ∀ {S5 : Slots} {H5 : Hp}, Env (plus D0 D) S5 σ4 (co H5) o → S5 = S4 → XE o H3 H5 → H5 D = some (.lst us) ∧ XE o (rm H2 D) (rm H5 D) ∧ Env D0 S1 σ (co (rm H5 D)) o ∧ XE o H1 (rm H5 D) ∧ Z D0 o (rm H5 D) := by
      intro S5 H5 E5 e5 x5
      subst e5
      have x25 : XE o H2 H5 := (XE.of le3).trans x5
      have xr := x25.rm (D := D)
      refine ⟨x25 _ _ (by rw [oD]; rfl) eD, xr, Env.show_ dD oD (Env.back hide2 E5 x25 fun j s hj hm => ?_), x2.trans xr, wk.xe _ _ _ _ _ z2 xr.vt xr.vw⟩
      have hj' : j ∉ vs := fun z => by
        have q := List.all_eq_true.mp hnr j z
        rw [hj] at q
        simp only [notRng, hm] at q
        cases q
      exact ⟨(k4.sl j (outL j hj')).trans ((wipeS_get hj').trans hj), (k4.st j (outL j hj')).trans (wipe_get hj')⟩
    refine tTW_snd (plus D0 D) S4 σ4 H3 o _ noX _ E4 h4 (fun b S5 H5 h5 E5 x5 => ?_) Xw.no
    obtain ⟨e5, h5⟩ := h5
    cases b with
    | true =>
      rw [if_pos rfl] at h5 ⊢
      rw [← e5] at h5
      refine tW_snd (plus D0 D) S5 σ4 H5 o _ noX _ E5 h5 (fun d ce S6 v H6 h6 E6 x6 V6 => ?_) Xw.no
      obtain ⟨e6, hlen, h6⟩ := h6
      obtain ⟨f1, f2, f3, f4, f5⟩ := fin E6 (e6.trans e5) (x5.trans x6)
      have hle : us.length < sizeLine := by rw [Vv.1.length]; exact hlen
      refine ⟨us, f1, hle, hlt, acc ++ [d], _, us ++ [v], upd_same, ?_, h6, by rw [rm_upd]; exact f3, by rw [rm_upd]; exact f4, by rw [rm_upd]; exact f5⟩
      rw [rm_upd]
      have V6' := V6.flat E6
      refine ⟨(Vv.1.mono f2.vt).append (.cons ?_ .nil), fun hc => ((Vv.2 hc.1).mono f2.vw).append (.cons ?_ .nil)⟩
      · have q := V6'.1
        rw [vt_plus] at q
        exact q
      · have q := V6'.2 hc.2
        rw [vw_plus] at q
        exact q
    | false =>
      rw [if_neg Bool.false_ne_true] at h5 ⊢
      obtain ⟨f1, f2, f3, f4, f5⟩ := fin E5 e5 x5
      exact ⟨hlt, acc, ca, us, f1, ⟨Vv.1.mono f2.vt, fun hc => (Vv.2 hc).mono f2.vw⟩, h5, f3, f4, f5⟩
  · left
    have ei : i = ds.length := by omega
    subst ei
    rw [List.drop_length] at hl
    refine ⟨wk.stop _ _ _ (upW z2), ?_⟩
    have q := kk acc ca S1 us D (rm H2 D) hl E2 (x1.trans x2) rm_at Vv
    rw [upd_rm eD] at q
    exact q
theorem so_lc {elt tg iter : Expr} {ifs : List Expr} {scope : Scope} {own : List (Str × Nat)} {L : List Nat} {wi : WLs} {wg : WTg} {wt : WTx} {we : WEx} (a : At X W k) (hi : SI X W tg iter wi) (ok : blkC X.N X.env.scope scope own = true)
    (hg : ∀ (s : Shared) (H : Hp) (C : Addr) (cl : List (Str × Addr)) (fp : List Addr), SG (X.blk s H scope (compEnvC scope cl C X.env) fp) tg L wg)
    (ht : ∀ (s : Shared) (H : Hp) (C : Addr) (cl : List (Str × Addr)) (fp : List Addr), At (X.blk s H scope (compEnvC scope cl C X.env) fp) (WN X.mg) k → STs (X.blk s H scope (compEnvC scope cl C X.env) fp) (WN X.mg) ifs wt)
    (he : ∀ (s : Shared) (H : Hp) (C : Addr) (cl : List (Str × Addr)) (fp : List Addr), At (X.blk s H scope (compEnvC scope cl C X.env) fp) (WN X.mg) k → SE (X.blk s H scope (compEnvC scope cl C X.env) fp) (WN X.mg) elt we)
    (hL : ∀ j ∈ L, j ∈ own.map (·.2)) (hs : ∀ x, foldedSetIterable iter X.env x = pure x := by intro _; rfl) : SO X W (.ListComp elt [⟨tg, iter, ifs, 0⟩] scope pos) (wLc wi wg wt we (own.map (·.2))) := by
  obtain ⟨twi, pwi, swi⟩ := hi.ex
  refine ⟨_, pe_lc a.calm a.nd pwi (blkOk_by ok) (fun s H C cl fp => (hg s H C cl fp).pg) (fun s H C cl fp => (ht s H C cl fp (a.blk ..)).pt) (fun s H C cl fp => (he s H C cl fp (a.blk ..)).pe) hs, snd_lc swi hL⟩
end
end Pu

namespace Pu
open PySem L2

/-! ### statements -/
structure En where
  nx : Slots → Prop
  rt : PyData → Prop → Slots → Prop
  bk : Slots → Prop
  ct : Slots → Prop
  ex : EK
abbrev WS := Slots → En → Prop
structure Goes (W : WM) (D0 : Addr → Bool) (o : Ow) (H : Hp) (P : En) (D : Ends) : Prop where
  nx : ∀ S' σ' H' o', P.nx S' → Env D0 S' σ' (co H') o' → Fr o H o' H' → D.nx σ' H'
  bk : ∀ S' σ' H' o', P.bk S' → Env D0 S' σ' (co H') o' → Fr o H o' H' → D.bk σ' H'
  ct : ∀ S' σ' H' o', P.ct S' → Env D0 S' σ' (co H') o' → Fr o H o' H' → D.ct σ' H'
  rt : ∀ d c S' v σ' H' o', P.rt d c S' → Env D0 S' σ' (co H') o' → Fr o H o' H' → Val D0 o' H' v d c → D.rt v H'
  ex : ∀ x S' σ' cls dd H' o', P.ex x S' → Env D0 S' σ' (co H') o' → Fr o H o' H' → XOk W.mg H' x cls dd → W.w cls dd σ' H'
def SndS (W : WM) (t : TS) (w : WS) : Prop := ∀ (D0 : Addr → Bool) (S : Slots) (σ : St) (H : Hp) (o : Ow) (P : En) (D : Ends), Env D0 S σ (co H) o → w S P → Goes W D0 o H P D → t D σ H
structure SS (X : Cx) (W : WM) (st : Stmt) (w : WS) : Prop where
  ex : ∃ t, PS X st t ∧ SndS W t w
structure SSs (X : Cx) (W : WM) (st : List Stmt) (w : WS) : Prop where
  ex : ∃ t, PSs X st t ∧ SndS W t w
theorem Goes.on {W : WM} {D0 : Addr → Bool} {o o1 : Ow} {H H1 : Hp} {P : En} {D : Ends} (g : Goes W D0 o H P D) (f : Fr o H o1 H1) : Goes W D0 o1 H1 P D :=
  ⟨fun a b c d e E q => g.nx a b c d e E (f.trans q), fun a b c d e E q => g.bk a b c d e E (f.trans q), fun a b c d e E q => g.ct a b c d e E (f.trans q),
    fun a b c d e f' g' h E q => g.rt a b c d e f' g' h E (f.trans q), fun a b c d e f' g' h E q => g.ex a b c d e f' g' h E (f.trans q)⟩
theorem Goes.xw {W : WM} {D0 : Addr → Bool} {o : Ow} {H : Hp} {P : En} {D : Ends} (g : Goes W D0 o H P D) {σ : St} : Xw W D0 σ o H P.ex :=
  fun x S' cls dd H' h E q ok => g.ex x S' σ cls dd H' o h E q.fr ok
theorem Fr.vw {D0 : Addr → Bool} {o o' : Ow} {H H' : Hp} (f : Fr o H o' H') : Le (vw D0 o (co H)) (vw D0 o' (co H')) := fun a u e => by
  unfold Pu.vw at e ⊢
  split at e
  · cases e
  · rename_i hn
    have hd : D0 a = false := by
      cases q : D0 a with
      | false => rfl
      | true => exact absurd (by rw [q, Bool.true_or]) hn
    have ho : o a = none := by
      cases q : o a with
      | none => rfl
      | some p => exact absurd (by rw [q]; simp) hn
    unfold co at e ⊢
    cases q : H a with
    | none => rw [q] at e; cases e
    | some z =>
      obtain ⟨h1, h2⟩ := f a z ho q
      rw [hd, h2, if_neg (by simp), h1]
      rw [q] at e
      exact e

section
variable {X : Cx} {W : WM} {k : Nat} {pos : Pos}
def wSkip : WS := fun S P => P.nx S
def wSeq (w1 w2 : WS) : WS := fun S P => w1 S { P with nx := fun S1 => w2 S1 P }
theorem sss_nil : SSs X W [] wSkip := ⟨_, pss_nil, fun D0 S σ H o P D E hw g => g.nx S σ H o hw E (Fr.refl _ _)⟩
theorem sss_one {st : Stmt} {w : WS} (h : SS X W st w) : SSs X W [st] w := by
  obtain ⟨t, p, s⟩ := h.ex
  exact ⟨_, pss_one p, s⟩
theorem sss_cons {st : Stmt} {rest : List Stmt} {w1 w2 : WS} (h1 : SS X W st w1) (h2 : SSs X W rest w2) : SSs X W (st :: rest) (wSeq w1 w2) := by
  obtain ⟨t1, p1, s1⟩ := h1.ex
  obtain ⟨t2, p2, s2⟩ := h2.ex
  refine ⟨_, pss_cons p1 p2, ?_⟩
  intro D0 S σ H o P D E hw g
  refine s1 D0 S σ H o _ _ E hw ⟨fun S' σ' H' o' h E' f => ?_, g.bk, g.ct, g.rt, g.ex⟩
  exact s2 D0 S' σ' H' o' P D E' h (g.on f)
theorem ss_pass : SS X W (.Pass pos) wSkip := ⟨_, ps_pass, fun D0 S σ H o P D E hw g => g.nx S σ H o hw E (Fr.refl _ _)⟩

/-! names -/
def wSet (i : Nat) (we : WEx) : WS := fun S P => we S (fun d c S1 => (c ∨ flat d = true) ∧ P.nx (S1.set i (.im d))) P.ex
theorem ss_set (i : Nat) {x : Str} {e : Expr} {p : Pos} {we : WEx} (a : At X W k) (he : SE X W e we) (hi : X.N[i]? = some x := by rfl) (hx : Loc X.env.scope x := by first | exact Or.inl rfl | exact Or.inr rfl) (hs : swapsWith e (some (.Name x p)) pos.line X.env = pure false := by rfl) (hf : X.fn x = true ∨ X.env.scope.names.lookup x = some .local := by first | exact .inl rfl | exact .inr rfl) :
    SS X W (.Assign [.Name x p] e pos) (wSet i we) := by
  obtain ⟨te, pe, se⟩ := he.ex
  refine ⟨_, ps_set a.nd hi hx pe hs hf, ?_⟩
  intro D0 S σ H o P D E hw g
  refine se D0 S σ H o _ P.ex _ E hw (fun d c S1 v H1 h1 E1 x1 V1 => ?_) g.xw
  exact g.nx _ _ _ _ h1.2 (E1.put i ((V1.flat E1).2 h1.1)) x1.fr
/-- slot i is this frame's own list -/
def ow1 (o : Ow) (p : Addr) (i : Nat) : Ow := fun a => if a = p then some (i, false) else o a
theorem vw_ow {D0 : Addr → Bool} {o : Ow} {H : Hp} {p : Addr} {i : Nat} {u : HO} (h : H p = none) : vw D0 (ow1 o p i) (co (upd H p u)) = vw D0 o (co H) := by
  funext a
  unfold vw ow1
  by_cases e : a = p
  · subst e
    rw [if_pos rfl]
    show (if (D0 a || true) = true then none else _) = _
    rw [Bool.or_true, if_pos rfl]
    split
    · rfl
    · exact (co_none.mpr h).symm
  · rw [if_neg e, co_upd, upd_ne e]
theorem Env.own {D0 : Addr → Bool} {S : Slots} {σ : St} {H : Hp} {o : Ow} {p : Addr} {vs : List V} {ds : List PyData} (E : Env D0 S σ (co H) o) (i : Nat) (h : H p = none) (r : RpAll (vw D0 o (co H)) vs ds) :
    Env D0 (S.set i (.ol ds)) (σ.set i (some (.ref p))) (co (upd H p (.lst vs))) (ow1 o p i) := by
  have nw := E.new h
  have le : Le (co H) (co (upd H p (.lst vs))) := (Le.new h).co
  have oe : ∀ {a : Addr}, a ≠ p → ow1 o p i a = o a := fun {a} n => if_neg n
  have ne : ∀ {a : Addr} {q : Nat × Bool}, o a = some q → a ≠ p := fun {a q} e z => by rw [z, nw.2] at e; cases e
  refine ⟨by rw [List.length_set, List.length_set]; exact E.len, fun a q e => ?_, fun a e => ?_, fun j s e => ?_⟩
  · by_cases z : a = p
    · subst z
      exact ⟨nw.1, _, co_of upd_same, rfl⟩
    · rw [oe z] at e
      obtain ⟨h1, u, h2, h3⟩ := E.live a q e
      exact ⟨h1, u, le _ _ h2, h3⟩
  · obtain ⟨u, h2, h3⟩ := E.dead a e
    exact ⟨u, le _ _ h2, h3⟩
  · by_cases z : i = j
    · subst z
      have hi : i < S.length := by
        obtain ⟨h1, _⟩ := List.getElem?_eq_some_iff.mp e
        rw [List.length_set] at h1
        exact h1
      rw [List.getElem?_set_self hi] at e
      cases e
      exact ⟨p, vs, by rw [List.getElem?_set_self (by rw [E.len]; exact hi)], if_pos rfl, co_of upd_same, by rw [vw_ow h]; exact r⟩
    · rw [List.getElem?_set_ne z] at e ⊢
      exact (E.sl j s e).move (by rw [vw_ow h]; exact Le.refl _) fun a b u h1 h2 => ⟨by rw [oe (ne h1)]; exact h1, le _ _ h2⟩
theorem fr_own {D0 : Addr → Bool} {S : Slots} {σ : St} {H : Hp} {o : Ow} {p : Addr} {i : Nat} {u : HO} (h : H p = none) : Fr o H (ow1 o p i) (upd H p u) := fun a x n e => by
  have ne := ne_of_none e h
  exact ⟨by rw [upd_ne ne]; exact e, by show (if a = p then _ else _) = _; rw [if_neg ne]; exact n⟩
def wOwn (i : Nat) (wo : WLs) : WS := fun S P => wo S (fun ds c S1 => (c ∨ flats ds = true) ∧ P.nx (S1.set i (.ol ds))) P.ex
theorem Vals'.clean {D0 : Addr → Bool} {S : Slots} {σ : St} {H : Hp} {o : Ow} {vs : List V} {ds : List PyData} {c : Prop} (E : Env D0 S σ (co H) o) (h : Vals' D0 o H vs ds c) (hc : c ∨ flats ds = true) : RpAll (Pu.vw D0 o (co H)) vs ds :=
  hc.elim h.2 fun f => h.1.flat E.vtw f
theorem ss_own (i : Nat) {x : Str} {e : Expr} {p : Pos} {wo : WLs} (a : At X W k) (he : SO X W e wo) (hi : X.N[i]? = some x := by rfl) (hx : Loc X.env.scope x := by first | exact Or.inl rfl | exact Or.inr rfl) (hs : swapsWith e (some (.Name x p)) pos.line X.env = pure false := by rfl) (hf : X.fn x = true ∨ X.env.scope.names.lookup x = some .local := by first | exact .inl rfl | exact .inr rfl) :
    SS X W (.Assign [.Name x p] e pos) (wOwn i wo) := by
  obtain ⟨te, pe, se⟩ := he.ex
  refine ⟨_, ps_set a.nd hi hx pe hs hf, ?_⟩
  intro D0 S σ H o P D E hw g
  refine se D0 S σ H o _ P.ex _ E hw (fun ds c S1 vs q H1 h1 E1 x1 hq V1 => ?_) g.xw
  exact g.nx _ _ _ _ h1.2 (E1.own i hq (V1.clean E1 h1.1)) (x1.fr.trans (fr_own (D0 := D0) (S := S1) (σ := σ) hq))
/-- targets of any kind -/
def wAsg (we : WEx) (wg : WTg) : WS := fun S P => we S (fun d c S1 => wg d c S1 P.nx) P.ex
theorem ss_asg {tg e : Expr} {L : List Nat} {we : WEx} {wg : WTg} (he : SE X W e we) (hg : SG X tg L wg) (hs : swapsWithSole [tg] e pos.line X.env = pure false := by rfl) (hw : swappedStores [tg] e X.env = pure none := by rfl)
    (h1 : (assignEach [tg] X.env).map (·.2) = [assign tg X.env] := by rfl) : SS X W (.Assign [tg] e pos) (wAsg we wg) := by
  obtain ⟨te, pe, se⟩ := he.ex
  obtain ⟨gg, pg, sg⟩ := hg.ex
  refine ⟨_, ps_asg pe pg hs hw h1, ?_⟩
  intro D0 S σ H o P D E hw g
  refine se D0 S σ H o _ P.ex _ E hw (fun d c S1 v H1 h1 E1 x1 V1 => ?_) g.xw
  exact sg D0 S1 σ H1 o v d c _ _ E1 V1 h1 fun S2 σ2 h2 E2 _ => g.nx _ _ _ _ h2 E2 x1.fr
def wPar (i j : Nat) (wa : WLs) : WS := fun S P => wa S (fun ds c S1 => match ds with
  | [x, y] => (c ∨ flats [x, y] = true) ∧ P.nx ((S1.set i (.im x)).set j (.im y))
  | _ => False) P.ex
theorem ss_par (i j : Nat) {x y : Str} {e1 e2 : Expr} {px py pt : Pos} {kt k2 pt2} {wa : WLs} (a : At X W k) (ha : SA X W [e1, e2] wa) (hi : X.N[i]? = some x := by rfl) (hj : X.N[j]? = some y := by rfl) (hij : i ≠ j := by decide)
    (hx : X.env.scope.names.lookup x = some .local := by rfl) (hy : X.env.scope.names.lookup y = some .local := by rfl)
    (hw : swappedStores [.Tuple [.Name x px, .Name y py] kt pt] (.Tuple [e1, e2] k2 pt2) X.env = pure (some [x, y]) := by rfl)
    (hs : swapsWithSole [.Tuple [.Name x px, .Name y py] kt pt] (.Tuple [e1, e2] k2 pt2) pos.line X.env = pure false := by rfl) :
    SS X W (.Assign [.Tuple [.Name x px, .Name y py] kt pt] (.Tuple [e1, e2] k2 pt2) pos) (wPar i j wa) := by
  obtain ⟨ta, pa, sa⟩ := ha.ex
  refine ⟨_, ps_par a.calm a.nd hi hj hij hx hy pa hw hs, ?_⟩
  intro D0 S σ H o P D E hw g
  refine sa D0 S σ H o _ P.ex _ E hw (fun ds c S1 vs H1 hl h1 E1 x1 V1 => ?_) g.xw
  split at h1
  · have q := V1.clean E1 h1.1
    cases q with
    | cons r1 q =>
      cases q with
      | cons r2 q =>
        cases q
        exact ⟨_, _, rfl, g.nx _ _ _ _ h1.2 ((E1.put i r1).put j r2) x1.fr⟩
  · exact h1.elim
def wAug (i : Nat) (g : R2D) (we : WEx) : WS := fun S P => match S[i]? with
  | some (.im d) => we S (fun y cy S1 => g d True y cy fun z cz => (cz ∨ flat z = true) ∧ P.nx (S1.set i (.im z))) P.ex
  | _ => False
theorem ss_aug (i : Nat) {x : Str} {e : Expr} {p : Pos} {op : Operator} {g : R2D} {we : WEx} (a : At X W k) (ho : Op2 X (inplaceOp op) g) (he : SE X W e we) (hi : X.N[i]? = some x := by rfl) (hx : Loc X.env.scope x := by first | exact Or.inl rfl | exact Or.inr rfl) (hf : X.fn x = true ∨ X.env.scope.names.lookup x = some .local := by first | exact .inl rfl | exact .inr rfl) :
    SS X W (.AugAssign (.Name x p) op e pos) (wAug i g we) := by
  obtain ⟨te, pe, se⟩ := he.ex
  obtain ⟨r, hr, h⟩ := ho.ex
  refine ⟨_, ps_aug (ti := r) a.nd hi hx pe hr hf, ?_⟩
  intro D0 S σ H o P D E hw gg
  unfold wAug at hw
  split at hw
  · rename_i d hs
    obtain ⟨v, h1, h2⟩ := E.sl i _ hs
    refine ⟨v, h1, se D0 S σ H o _ P.ex _ E hw (fun y cy S1 u H1 h3 E1 x1 V1 => ?_) gg.xw⟩
    refine h D0 S1 σ o H1 v u d y True cy _ _ E1 ((Val.of h2).mono x1) V1 h3 fun z dz cz H' hz le V => ?_
    have E2 := E1.xe le
    exact gg.nx _ _ _ _ hz.2 (E2.put i ((V.flat E2).2 hz.1)) (x1.trans (XE.of le)).fr
  · exact hw.elim
def gIadd : R2D := gI (fun _ _ => True) fun i j => .int (i + j)
theorem o_iadd : Op2 X (inplaceOp .Add) gIadd := op2_I0 iop_add fun _ _ _ => .int _
theorem o_imul : Op2 X (inplaceOp .Mult) gMulS := op2_I iop_mul fun _ _ _ => .int _
theorem o_idiv : Op2 X (inplaceOp .FloorDiv) gDiv := op2_I iop_fdivW fun _ _ _ => .int _

/-! an expression alone; return; if -/
def wDrop (we : WEx) : WS := fun S P => we S (fun _ _ S1 => P.nx S1) P.ex
theorem ss_expr {e : Expr} {we : WEx} (he : SE X W e we) (hs : swapsWith e none pos.line X.env = pure false := by rfl) : SS X W (.Expr e pos) (wDrop we) := by
  obtain ⟨te, pe, se⟩ := he.ex
  refine ⟨_, ps_expr pe hs, ?_⟩
  intro D0 S σ H o P D E hw g
  exact se D0 S σ H o _ P.ex _ E hw (fun d c S1 v H1 h1 E1 x1 V1 => g.nx _ _ _ _ h1 E1 x1.fr) g.xw
def wRet (we : WEx) : WS := fun S P => we S P.rt P.ex
theorem ss_ret {e : Expr} {we : WEx} (he : SE X W e we) : SS X W (.Return (some e) pos) (wRet we) := by
  obtain ⟨te, pe, se⟩ := he.ex
  refine ⟨_, ps_ret pe, ?_⟩
  intro D0 S σ H o P D E hw g
  exact se D0 S σ H o _ P.ex _ E hw (fun d c S1 v H1 h1 E1 x1 V1 => g.rt _ _ _ _ _ _ _ h1 E1 x1.fr V1) g.xw
def wIfS (wt : WTx) (w1 w2 : WS) : WS := fun S P => wt S (fun b S1 => if b = true then w1 S1 P else w2 S1 P) P.ex
theorem ss_if {c : Expr} {a b : List Stmt} {wt : WTx} {w1 w2 : WS} (hc : ST X W c wt) (ha : SSs X W a w1) (hb : SSs X W b w2) : SS X W (.If c a b pos) (wIfS wt w1 w2) := by
  obtain ⟨tc, pc, sc⟩ := hc.ex
  obtain ⟨ta, pa, sa⟩ := ha.ex
  obtain ⟨tb, pb, sb⟩ := hb.ex
  refine ⟨_, ps_if pc pa pb, ?_⟩
  intro D0 S σ H o P D E hw g
  refine sc D0 S σ H o _ P.ex _ E hw (fun b S1 H1 h1 E1 x1 => ?_) g.xw
  cases b with
  | true => exact sa D0 S1 σ H1 o P D E1 h1 (g.on x1.fr)
  | false => exact sb D0 S1 σ H1 o P D E1 h1 (g.on x1.fr)

/-! loops -/
def forL (wg : WTg) (wb : WS) (c : Prop) (P : En) : List PyData → Slots → Prop
  | [], S => P.nx S
  | d :: r, S => wg d c S fun S1 => wb S1 { P with nx := forL wg wb c P r, ct := forL wg wb c P r, bk := P.nx }
def wFor (wi : WLs) (wg : WTg) (wb : WS) : WS := fun S P => wi S (fun ds c S1 => c ∧ forL wg wb c P ds S1) P.ex
theorem ss_for {tg iter : Expr} {body : List Stmt} {L : List Nat} {wi : WLs} {wg : WTg} {wb : WS} (a : At X W k) (hi : SI X W tg iter wi) (hg : SG X tg L wg) (hb : SSs X W body wb)
    (hs : ∀ x, foldedSetIterable iter X.env x = pure x := by intro _; rfl) : SS X W (.For tg iter body [] pos) (wFor wi wg wb) := by
  obtain ⟨twi, pwi, swi⟩ := hi.ex
  obtain ⟨gg, pg, sg⟩ := hg.ex
  obtain ⟨tb, pb, sb⟩ := hb.ex
  refine ⟨_, ps_for a.po a.calm pwi pg pb hs, ?_⟩
  intro D0 S σ H o P D E hw g
  refine swi D0 S σ H o _ P.ex _ E hw (fun ds c S1 J H1 Z h1 E1 x1 wk z1 => ?_) g.xw
  obtain ⟨hc, h1⟩ := h1
  refine ⟨fun i m σ' H' => m = ds.length - i ∧ i ≤ ds.length ∧ ∃ (S' : Slots) (o' : Ow), forL wg wb c P (ds.drop i) S' ∧ Env D0 S' σ' (co H') o' ∧ Fr o H1 o' H' ∧ Z D0 o' H', ⟨ds.length, by simp, Nat.zero_le _, S1, o, h1, E1, Fr.refl _ _, z1⟩, ?_⟩
  rintro i m σ2 H2 ⟨rfl, hi, S2, o2, h2, E2, f2, z2⟩
  by_cases hlt : i < ds.length
  · right
    refine ⟨wk.go _ _ _ _ z2 hlt, fun σ' H' => i + 1 ≤ ds.length ∧ ∃ (S' : Slots) (o' : Ow), forL wg wb c P (ds.drop (i + 1)) S' ∧ Env D0 S' σ' (co H') o' ∧ Fr o H1 o' H' ∧ Z D0 o' H', fun σ' H' hN => ⟨ds.length - (i + 1), by omega, rfl, hN⟩, fun x H3 hy => ?_⟩
    obtain ⟨le3, Vx⟩ := wk.yld D0 S2 σ2 o2 H2 i x H3 ds[i] z2 E2 (List.getElem?_eq_getElem hlt) hy
    rw [List.drop_eq_getElem_cons hlt] at h2
    unfold forL at h2
    refine sg D0 S2 σ2 H3 o2 x ds[i] c _ _ (E2.xe le3) Vx h2 fun S4 σ4 h4 E4 _ => ?_
    have f3 : Fr o H1 o2 H3 := f2.trans (XE.of le3).fr
    have z3 : Z D0 o2 H3 := wk.fr _ _ _ _ _ hc z2 (XE.of le3).vw
    have turn : ∀ S' σ' H' o', forL wg wb c P (ds.drop (i + 1)) S' → Env D0 S' σ' (co H') o' → Fr o2 H3 o' H' → i + 1 ≤ ds.length ∧ ∃ (S' : Slots) (o' : Ow), forL wg wb c P (ds.drop (i + 1)) S' ∧ Env D0 S' σ' (co H') o' ∧ Fr o H1 o' H' ∧ Z D0 o' H' :=
      fun S' σ' H' o' h E' f => ⟨hlt, S', o', h, E', f3.trans f, wk.fr _ _ _ _ _ hc z3 f.vw⟩
    exact sb D0 S4 σ4 H3 o2 _ _ E4 h4 ⟨turn, fun S' σ' H' o' h E' f => g.nx S' σ' H' o' h E' ((x1.fr.trans f3).trans f), turn,
      fun d c' S' v σ' H' o' h E' f V => g.rt d c' S' v σ' H' o' h E' ((x1.fr.trans f3).trans f) V, fun x' S' σ' cls dd H' o' h E' f ok => g.ex x' S' σ' cls dd H' o' h E' ((x1.fr.trans f3).trans f) ok⟩
  · left
    have ei : i = ds.length := by omega
    subst ei
    rw [List.drop_length] at h2
    exact ⟨wk.stop _ _ _ z2, g.nx _ _ _ _ h2 E2 (x1.fr.trans f2)⟩
def whL (wt : WTx) (wb : WS) (P : En) : Nat → Slots → Prop
  | 0, _ => False
  | n + 1, S => wt S (fun b S1 => if b = true then wb S1 { P with nx := whL wt wb P n, ct := whL wt wb P n, bk := P.nx } else P.nx S1) P.ex
def wWh (wt : WTx) (wb : WS) : WS := fun S P => ∃ n, whL wt wb P n S
theorem ss_while {c : Expr} {body : List Stmt} {wt : WTx} {wb : WS} (a : At X W k) (hc : ST X W c wt) (hb : SSs X W body wb) : SS X W (.While c body [] pos) (wWh wt wb) := by
  obtain ⟨tc, pc, sc⟩ := hc.ex
  obtain ⟨tb, pb, sb⟩ := hb.ex
  refine ⟨_, ps_while a.po pc pb, ?_⟩
  intro D0 S σ H o P D E hw g
  obtain ⟨n, hw⟩ := hw
  refine ⟨fun m σ' H' => ∃ (S' : Slots) (o' : Ow), whL wt wb P m S' ∧ Env D0 S' σ' (co H') o' ∧ Fr o H o' H', ⟨n, S, o, hw, E, Fr.refl _ _⟩, ?_⟩
  rintro m σ2 H2 ⟨S2, o2, h2, E2, f2⟩
  cases m with
  | zero => exact h2.elim
  | succ m =>
    refine sc D0 S2 σ2 H2 o2 _ P.ex _ E2 h2 (fun b S3 H3 h3 E3 x3 => ?_) (g.on f2).xw
    have f3 := f2.trans x3.fr
    cases b with
    | true =>
      rw [if_pos rfl] at h3 ⊢
      refine ⟨fun σ' H' => ∃ (S' : Slots) (o' : Ow), whL wt wb P m S' ∧ Env D0 S' σ' (co H') o' ∧ Fr o H o' H', fun σ' H' hN => ⟨m, Nat.lt_succ_self m, hN⟩, ?_⟩
      have turn : ∀ S' σ' H' o', whL wt wb P m S' → Env D0 S' σ' (co H') o' → Fr o2 H3 o' H' → ∃ (S' : Slots) (o' : Ow), whL wt wb P m S' ∧ Env D0 S' σ' (co H') o' ∧ Fr o H o' H' := fun S' σ' H' o' h E' f => ⟨S', o', h, E', f3.trans f⟩
      exact sb D0 S3 σ2 H3 o2 _ _ E3 h3 ⟨turn, fun S' σ' H' o' h E' f => g.nx S' σ' H' o' h E' (f3.trans f), turn,
        fun d c' S' v σ' H' o' h E' f V => g.rt d c' S' v σ' H' o' h E' (f3.trans f) V, fun x' S' σ' cls dd H' o' h E' f ok => g.ex x' S' σ' cls dd H' o' h E' (f3.trans f) ok⟩
    | false =>
      rw [if_neg Bool.false_ne_true] at h3 ⊢
      exact g.nx _ _ _ _ h3 E3 f3
end
end Pu

namespace Pu
open PySem L2
section
variable {X : Cx} {W : WM} {k : Nat} {pos : Pos}

/-! ### a list of one's own is changed -/
theorem ow_vw {D0 : Addr → Bool} {o : Ow} {H : Hp} {p : Addr} {q : Nat × Bool} {u : HO} (h : o p = some q) : vw D0 o (co (upd H p u)) = vw D0 o (co H) := by
  funext a
  unfold vw
  by_cases e : a = p
  · subst e
    rw [h]
    show (if (D0 a || true) = true then none else _) = (if (D0 a || true) = true then none else _)
    rw [Bool.or_true, if_pos rfl, if_pos rfl]
  · rw [co_upd, upd_ne e]
theorem Env.wr {D0 : Addr → Bool} {S : Slots} {σ : St} {H : Hp} {o : Ow} {p : Addr} {i : Nat} {vs : List V} {ds : List PyData} (E : Env D0 S σ (co H) o) (hs : i < S.length) (hσ : σ[i]? = some (some (.ref p))) (h : o p = some (i, false)) (r : RpAll (vw D0 o (co H)) vs ds) :
    Env D0 (S.set i (.ol ds)) σ (co (upd H p (.lst vs))) o := by
  have at_ : ∀ {a : Addr} {u : HO}, a ≠ p → co H a = some u → co (upd H p (.lst vs)) a = some u := fun {a u} n e => by rw [co_upd, upd_ne n]; exact e
  refine ⟨by rw [List.length_set]; exact E.len, fun a q e => ?_, fun a e => ?_, fun j s e => ?_⟩
  · by_cases z : a = p
    · subst z
      exact ⟨(E.live _ _ h).1, _, co_of upd_same, rfl⟩
    · obtain ⟨h1, u, h2, h3⟩ := E.live a q e
      exact ⟨h1, u, at_ z h2, h3⟩
  · have ne : a ≠ p := fun z => by rw [z, (E.live _ _ h).1] at e; cases e
    obtain ⟨u, h2, h3⟩ := E.dead a e
    exact ⟨u, at_ ne h2, h3⟩
  · by_cases z : i = j
    · subst z
      rw [List.getElem?_set_self hs] at e
      cases e
      exact ⟨p, vs, hσ, h, co_of upd_same, by rw [ow_vw h]; exact r⟩
    · rw [List.getElem?_set_ne z] at e
      have ne : ∀ {a : Addr} {b : Bool}, o a = some (j, b) → a ≠ p := fun {a b} e1 e2 => by rw [e2, h] at e1; cases e1; exact z rfl
      exact (E.sl j s e).move (by rw [ow_vw h]; exact Le.refl _) fun a b u h1 h2 => ⟨h1, at_ (ne h1) h2⟩
theorem fr_wr {H : Hp} {o : Ow} {p : Addr} {q : Nat × Bool} {u : HO} (h : o p = some q) : Fr o H o (upd H p u) := fun a x n e => by
  have ne : a ≠ p := fun z => by rw [z, h] at n; cases n
  exact ⟨by rw [upd_ne ne]; exact e, n⟩
theorem Env.lt {D0 : Addr → Bool} {S : Slots} {σ : St} {C : Hp} {o : Ow} (E : Env D0 S σ C o) {i : Nat} {s : Slot} (h : S[i]? = some s) : i < S.length := (List.getElem?_eq_some_iff.mp h).1
/-- x.append(e) -/
def wApp (i : Nat) (we : WEx) : WS := fun S P => (∃ xs, S[i]? = some (.ol xs)) ∧ we S (fun d c S1 => match S1[i]? with
  | some (.ol xs) => xs.length < sizeLine ∧ (c ∨ flat d = true) ∧ P.nx (S1.set i (.ol (xs ++ [d])))
  | _ => False) P.ex
theorem ss_app (i : Nat) {x : Str} {e : Expr} {p ap cp : Pos} {we : WEx} (he : SE X W e we) (hN : X.N[i]? = some x := by rfl) (hv : Vis X.env.scope x := by first | exact Or.inl rfl | exact Or.inr (Or.inl rfl) | exact Or.inr (Or.inr rfl))
    (hd : (x == ("__debug__" : Str)) = false := by decide) (hcd : (x == ("__classdict__" : Str)) = false := by decide)
    (hb : attributeBase (.Name x p) "append" X.env (eval (.Name x p) X.env) = eval (.Name x p) X.env := by rfl)
    (hfew : ((backTo cp (starEach [e] X.env)).all (fun x => !x.1) && (backToKw cp (keywordEach [] X.env)).all (fun x => x.1.isSome) && decide ([e].length + ([] : List Keyword).length + (if ([] : List Keyword).isEmpty then 0 else 1) < 30)) = true := by rfl)
    (hl : (ap.endLine == cp.line) = true := by rfl) (hst : starEach [e] X.env = (false, eval e X.env) :: starEach [] X.env := by rfl) (hpl : (backTo cp (starEach [] X.env)).any (·.1) = false := by rfl)
    (hsw : swapsWith (.Call (.Attribute (.Name x p) "append" ap) [e] [] cp) none pos.line X.env = pure false := by rfl) :
    SS X W (.Expr (.Call (.Attribute (.Name x p) "append" ap) [e] [] cp) pos) (wApp i we) := by
  obtain ⟨te, pe, se⟩ := he.ex
  refine ⟨_, ps_expr (pe_bm PySem.F.plainAttrs_list PySem.F.slot_list_append PySem.F.type_list_append mt_append (pe_var hN hv hd hcd) (pa_cons pe pa_nil hst) hb hfew hl hst hpl) hsw, ?_⟩
  intro D0 S σ H o P D E hw g
  obtain ⟨⟨xs0, hs0⟩, hw⟩ := hw
  obtain ⟨a, vs0, h1, h2, h3, h4⟩ := E.sl i _ hs0
  refine ⟨.ref a, h1, .inl ⟨rfl, vs0, SqL.at (co_lst h3)⟩, se D0 S σ H o _ P.ex _ E hw (fun d c S1 v H1 h5 E1 x1 V1 => ?_) g.xw⟩
  split at h5
  · rename_i xs hs1
    obtain ⟨a', vs, k1, k2, k3, k4⟩ := E1.sl i _ hs1
    rw [h1] at k1
    cases k1
    refine ⟨a, vs, v, rfl, rfl, co_lst k3, by rw [k4.length]; exact h5.1, ?_⟩
    exact g.nx _ _ _ _ h5.2.2 (E1.wr (E1.lt hs1) h1 k2 (k4.append (.cons ((V1.flat E1).2 h5.2.1) .nil))) (x1.fr.trans (fr_wr k2))
  · exact h5.elim
/-- x.extend(e), e a list -/
def wExt (i : Nat) (we : WEx) : WS := fun S P => (∃ xs, S[i]? = some (.ol xs)) ∧ we S (fun d c S1 => match d, S1[i]? with
  | .list ys, some (.ol xs) => xs.length + ys.length ≤ sizeLine ∧ (c ∨ flats ys = true) ∧ P.nx (S1.set i (.ol (xs ++ ys)))
  | _, _ => False) P.ex
theorem ss_ext (i : Nat) {x : Str} {e : Expr} {p ap cp : Pos} {we : WEx} (he : SE X W e we) (hN : X.N[i]? = some x := by rfl) (hv : Vis X.env.scope x := by first | exact Or.inl rfl | exact Or.inr (Or.inl rfl) | exact Or.inr (Or.inr rfl))
    (hd : (x == ("__debug__" : Str)) = false := by decide) (hcd : (x == ("__classdict__" : Str)) = false := by decide)
    (hb : attributeBase (.Name x p) "extend" X.env (eval (.Name x p) X.env) = eval (.Name x p) X.env := by rfl)
    (hfew : ((backTo cp (starEach [e] X.env)).all (fun x => !x.1) && (backToKw cp (keywordEach [] X.env)).all (fun x => x.1.isSome) && decide ([e].length + ([] : List Keyword).length + (if ([] : List Keyword).isEmpty then 0 else 1) < 30)) = true := by rfl)
    (hl : (ap.endLine == cp.line) = true := by rfl) (hst : starEach [e] X.env = (false, eval e X.env) :: starEach [] X.env := by rfl) (hpl : (backTo cp (starEach [] X.env)).any (·.1) = false := by rfl)
    (hsw : swapsWith (.Call (.Attribute (.Name x p) "extend" ap) [e] [] cp) none pos.line X.env = pure false := by rfl) :
    SS X W (.Expr (.Call (.Attribute (.Name x p) "extend" ap) [e] [] cp) pos) (wExt i we) := by
  obtain ⟨te, pe, se⟩ := he.ex
  refine ⟨_, ps_expr (pe_bm PySem.F.plainAttrs_list PySem.F.slot_list_extend PySem.F.type_list_extend mt_extend (pe_var hN hv hd hcd) (pa_cons pe pa_nil hst) hb hfew hl hst hpl) hsw, ?_⟩
  intro D0 S σ H o P D E hw g
  obtain ⟨⟨xs0, hs0⟩, hw⟩ := hw
  obtain ⟨a, vs0, h1, h2, h3, h4⟩ := E.sl i _ hs0
  refine ⟨.ref a, h1, .inl ⟨rfl, vs0, SqL.at (co_lst h3)⟩, se D0 S σ H o _ P.ex _ E hw (fun d c S1 v H1 h5 E1 x1 V1 => ?_) g.xw⟩
  split at h5
  · rename_i ys xs hs1
    obtain ⟨a', vs, k1, k2, k3, k4⟩ := E1.sl i _ hs1
    rw [h1] at k1
    cases k1
    obtain ⟨b, ws, rfl, eb, rb, cb⟩ := V1.items E1
    refine ⟨a, b, vs, ws, rfl, rfl, co_lst k3, eb, by rw [k4.length, rb.length]; exact h5.1, ?_⟩
    exact g.nx _ _ _ _ h5.2.2 (E1.wr (E1.lt hs1) h1 k2 (k4.append (cb h5.2.1))) (x1.fr.trans (fr_wr k2))
  · exact h5.elim
/-- x[j] = e -/
def wSetI (i : Nat) (we wj : WEx) : WS := fun S P => we S (fun d c S1 => (∃ xs, S1[i]? = some (.ol xs)) ∧ wj S1 (fun jd _ S2 => match jd, S2[i]? with
  | .int j, some (.ol xs) => ∃ n, ixN xs.length j = some n ∧ (c ∨ flat d = true) ∧ P.nx (S2.set i (.ol (xs.set n d)))
  | _, _ => False) P.ex) P.ex
theorem ss_setI (i : Nat) {x : Str} {e j : Expr} {p ap : Pos} {we wj : WEx} (he : SE X W e we) (hj : SE X W j wj) (hN : X.N[i]? = some x := by rfl) (hv : Vis X.env.scope x := by first | exact Or.inl rfl | exact Or.inr (Or.inl rfl) | exact Or.inr (Or.inr rfl))
    (hd : (x == ("__debug__" : Str)) = false := by decide) (hcd : (x == ("__classdict__" : Str)) = false := by decide)
    (ha : ∀ v, assign (.Subscript (.Name x p) j ap) X.env v = (do
      let ov ← holding [v] (eval (.Name x p) X.env)
      let iv ← holding [v, ov] (eval j X.env)
      standAt ap
      holding [v, ov, iv] (setItem ov iv v)
      release [v, ov, iv] []) := by intro _; rfl)
    (hs : swapsWithSole [.Subscript (.Name x p) j ap] e pos.line X.env = pure false := by rfl) (hw : swappedStores [.Subscript (.Name x p) j ap] e X.env = pure none := by rfl)
    (h1 : (assignEach [.Subscript (.Name x p) j ap] X.env).map (·.2) = [assign (.Subscript (.Name x p) j ap) X.env] := by rfl) : SS X W (.Assign [.Subscript (.Name x p) j ap] e pos) (wSetI i we wj) := by
  obtain ⟨te, pe, se⟩ := he.ex
  obtain ⟨tj, pj, sj⟩ := hj.ex
  refine ⟨_, ps_asg pe (pg_sub (pe_var hN hv hd hcd) pj set_list ha) hs hw h1, ?_⟩
  intro D0 S σ H o P D E hw g
  refine se D0 S σ H o _ P.ex _ E hw (fun d c S1 v H1 h1 E1 x1 V1 => ?_) g.xw
  obtain ⟨⟨xs0, hs0⟩, h1⟩ := h1
  obtain ⟨a, vs0, k1, k2, k3, k4⟩ := E1.sl i _ hs0
  refine ⟨.ref a, k1, sj D0 S1 σ H1 o _ P.ex _ E1 h1 (fun jd cj S2 jv H2 h2 E2 x2 V2 => ?_) (g.on x1.fr).xw⟩
  split at h2
  · rename_i j' xs hs1
    obtain ⟨n, hn, hc, h2⟩ := h2
    obtain ⟨a', vs, m1, m2, m3, m4⟩ := E2.sl i _ hs1
    rw [k1] at m1
    cases m1
    cases V2.1
    refine ⟨a, vs, j', n, rfl, rfl, co_lst m3, by rw [m4.length]; exact hn, ?_⟩
    have V1' := (V1.mono x2).flat E2
    exact g.nx _ _ _ _ h2 (E2.wr (E2.lt hs1) k1 m2 (RpAll.set (V1'.2 hc) n m4)) ((x1.fr.trans x2.fr).trans (fr_wr m2))
  · exact h2.elim
/-- x[j] op= e -/
def rGetL : V → V → Hp → VK → Prop := fun x y H Q => ∃ p xs i v, x = .ref p ∧ y = .int i ∧ H p = some (.lst xs) ∧ 0 ≤ i ∧ atI xs i = some v ∧ Q v H
theorem get_list : PGet X rGetL := by
  intro pins s σ H x y v u Q I rx ry h
  obtain ⟨p, xs, i, z, rfl, rfl, hp, h0, he, q⟩ := h
  cases rx
  obtain ⟨t, rfl⟩ := ry
  obtain ⟨its, n, r, ho, hz⟩ := I.lst hp
  obtain ⟨j, h1, h2, h3, h4, h5⟩ := atI_get he
  obtain ⟨w, ew, rw'⟩ := r.get h2
  have hl := r.length
  have hn := line63
  have hj : i.toNat = j := by
    rw [seqIndex_of h0 h5] at h1
    exact Option.some.inj h1
  have pl : s.heap.IsList p its.toArray := ⟨_, ho, rfl, n, rfl⟩
  exact wpAny_getItem_list pl h0 (by omega) (by rw [hj]; simpa using ew) ⟨z, H, I, rw', q⟩
def wAugI (i : Nat) (g : R2D) (wj we : WEx) : WS := fun S P => (∃ xs, S[i]? = some (.ol xs)) ∧ wj S (fun jd _ S1 => match jd, S1[i]? with
  | .int j, some (.ol xs) => 0 ≤ j ∧ ∃ d, atD xs j = some d ∧ we S1 (fun y cy S2 => g d True y cy fun z cz => match S2[i]? with
    | some (.ol ys) => ∃ n, ixN ys.length j = some n ∧ (cz ∨ flat z = true) ∧ P.nx (S2.set i (.ol (ys.set n z)))
    | _ => False) P.ex
  | _, _ => False) P.ex
theorem ss_augI (i : Nat) {x : Str} {e j : Expr} {op : Operator} {p ap : Pos} {g : R2D} {we wj : WEx} (ho : Op2 X (inplaceOp op) g) (hj : SE X W j wj) (he : SE X W e we) (hN : X.N[i]? = some x := by rfl) (hv : Vis X.env.scope x := by first | exact Or.inl rfl | exact Or.inr (Or.inl rfl) | exact Or.inr (Or.inr rfl))
    (hd : (x == ("__debug__" : Str)) = false := by decide) (hcd : (x == ("__classdict__" : Str)) = false := by decide)
    (ha : ∀ ov iv new, augStore j ov iv new = (do holding [new, ov, iv] (setItem ov iv new); release [new, ov, iv] []; pure .next) := by intros; rfl) :
    SS X W (.AugAssign (.Subscript (.Name x p) j ap) op e pos) (wAugI i g wj we) := by
  obtain ⟨te, pe, se⟩ := he.ex
  obtain ⟨tj, pj, sj⟩ := hj.ex
  obtain ⟨r, hr, h⟩ := ho.ex
  refine ⟨_, ps_augS (tip := r) (pe_var hN hv hd hcd) pj get_list pe hr set_list ha, ?_⟩
  intro D0 S σ H o P D E hw gg
  obtain ⟨⟨xs0, hs0⟩, hw⟩ := hw
  obtain ⟨a, vs0, k1, k2, k3, k4⟩ := E.sl i _ hs0
  refine ⟨.ref a, k1, sj D0 S σ H o _ P.ex _ E hw (fun jd cj S1 jv H1 h1 E1 x1 V1 => ?_) gg.xw⟩
  split at h1
  · rename_i j' xs hs1
    obtain ⟨h0, d, hd, h1⟩ := h1
    obtain ⟨a', vs, m1, m2, m3, m4⟩ := E1.sl i _ hs1
    rw [k1] at m1
    cases m1
    cases V1.1
    obtain ⟨v, hv, rv⟩ := rp_at m4 hd
    refine ⟨a, vs, j', v, rfl, rfl, co_lst m3, h0, hv, se D0 S1 σ H1 o _ P.ex _ E1 h1 (fun y cy S2 u H2 h2 E2 x2 V2 => ?_) (gg.on x1.fr).xw⟩
    refine h D0 S2 σ o H2 v u d y True cy _ _ E2 ((Val.of rv).mono x2) V2 h2 fun z dz cz H3 hz le V => ?_
    have E3 := E2.xe le
    split at hz
    · rename_i ys hs2
      obtain ⟨n, hn, hc, hz⟩ := hz
      obtain ⟨a', vs', q1, q2, q3, q4⟩ := E3.sl i _ hs2
      rw [k1] at q1
      cases q1
      refine ⟨a, vs', j', n, rfl, rfl, co_lst q3, by rw [q4.length]; exact hn, ?_⟩
      exact gg.nx _ _ _ _ hz (E3.wr (E3.lt hs2) k1 q2 (RpAll.set ((V.flat E3).2 hc) n q4)) ((((x1.trans x2).trans (XE.of le)).fr).trans (fr_wr q2))
    · exact hz.elim
  · exact h1.elim
theorem o_isub : Op2 X (inplaceOp .Sub) (gI (fun _ _ => True) fun i j => .int (i - j)) := op2_I0 iop_sub fun _ _ _ => .int _

/-! ### a def of the text keeps its promise -/
/-- the frame at a def's start -/
def startS (n : Nat) (ds : List PyData) : Slots := ds.map .im ++ List.replicate (n - ds.length) .un
theorem env_start {D0 : Addr → Bool} {N : List Str} {vs : List V} {ds : List PyData} {H : Hp} (hd : ∀ a, D0 a = true → ∃ u, co H a = some u ∧ isTup u = false) (r : RpAll (hid D0 (co H)) vs ds) : Env D0 (startS N.length ds) (L2.start N vs) (co H) (fun _ => none) := by
  have ev : vw D0 (fun _ => none) (co H) = hid D0 (co H) := by
    funext a
    unfold vw hid
    simp
  refine ⟨?_, fun a p e => (by cases e), hd, fun i s e => ?_⟩
  · unfold startS L2.start
    simp [r.length]
  · unfold startS at e
    by_cases hi : i < ds.length
    · rw [List.getElem?_append_left (by simpa using hi), List.getElem?_map, List.getElem?_eq_getElem hi] at e
      cases e
      obtain ⟨v, h1, h2⟩ := r.get (List.getElem?_eq_getElem hi)
      refine ⟨v, ?_, by rw [ev]; exact h2⟩
      unfold L2.start
      rw [List.getElem?_append_left (by simpa [r.length] using hi), List.getElem?_map, h1]
      rfl
    · rw [List.getElem?_append_right (by simpa using hi), List.getElem?_replicate] at e
      split at e
      · cases e
        trivial
      · cases e
section
variable {P : Program} {w : World} {K : PySem.W.Frag} {mg : Str → Option Value} {base : Heap}
/-- THE RULE for a def that changes nothing -/
theorem def_ok {x : Str} {st : Stmt} {f : Addr} {fd : FuncData} {N ps : List Str} {k : Nat} {sp : Spc} (F : Fun K x x st f fd) (S : FnScope N ps (defScope st))
    (hb : ∀ (cdv : Value) (A : Around) (outer : List PySem.Env) (s : Shared) (H : Hp) (E : XK), At (cxOf (L2.CX P w) P w K mg base N x (defScope st) f cdv A outer s H E) ⟨mg, fun cls d _ H' => E cls d H'⟩ k →
      ∃ wb, SSs (cxOf (L2.CX P w) P w K mg base N x (defScope st) f cdv A outer s H E) ⟨mg, fun cls d _ H' => E cls d H'⟩ (defBody st) wb ∧
        ∀ ds A B, ds.length = ps.length → sp ds A B → wb (startS N.length ds) ⟨fun _ => A .none, fun d _ _ => A d, fun _ => False, fun _ => False, fun x _ => B x⟩) :
    FnOk P w K mg base (L2.CX P w) (k + 1) f fd ps (spOf mg ps.length sp) := by
  refine F.okX S (fun vs H Q E h => spOf_len h) (fun cdv A outer s H vs Q E hr h => ?_)
  obtain ⟨ds, D0, A', B', hl, hd, r, hsp, hA, hB⟩ := h
  have at_ : At (cxOf (L2.CX P w) P w K mg base N x (defScope st) f cdv A outer s H E) ⟨mg, fun cls d _ H' => E cls d H'⟩ k := by
    refine ⟨hr, rfl, takes_of rfl rfl rfl rfl, rfl, S.nd, passes_of rfl⟩
  obtain ⟨wb, hp, hw⟩ := hb cdv A outer s H E at_
  obtain ⟨t, pt, st'⟩ := hp.ex
  refine ⟨t, pt, ?_⟩
  have ev : ∀ {H' : Hp} {o' : Ow} {v : V} {d : PyData}, Rp (vt D0 o' (co H')) v d → Rp (hid D0 (co H')) v d := fun {H' o' v d} q => q.mono fun a u e => by
    unfold vt at e
    unfold hid
    split at e
    · cases e
    · rename_i hn
      rw [if_neg (fun z => hn (by rw [z, Bool.true_or]))]
      exact e
  have le : ∀ {H' : Hp} {o' : Ow}, Fr (fun _ => none) H o' H' → Le H H' := fun {H' o'} f a u e => (f a u rfl e).1
  exact st' D0 _ _ H _ _ _ (env_start hd r) (hw ds A' B' hl hsp)
    ⟨fun S' σ' H' o' h E' f => hA _ _ _ h (le f) .non, fun _ _ _ _ h => h.elim, fun _ _ _ _ h => h.elim,
      fun d c S' v σ' H' o' h E' f V => hA _ _ _ h (le f) (ev V.1), fun x S' σ' cls dd H' o' h E' f ok => hB x cls dd H' h (le f) ok⟩
end
end
end Pu

namespace Pu
open PySem L2
section
variable {X : Cx} {W : WM} {k : Nat} {pos : Pos}
theorem vals1 {D0 : Addr → Bool} {o : Ow} {H : Hp} {vs : List V} {d : PyData} {c : Prop} (h : Vals' D0 o H vs [d] c) : ∃ v, vs = [v] ∧ Val D0 o H v d c := by
  obtain ⟨h1, h2⟩ := h
  cases h1 with
  | cons a b =>
    cases b
    exact ⟨_, rfl, a, fun hc => by cases h2 hc with | cons a' _ => exact a'⟩
theorem CallR.or {f : Value} {r1 r2 : List V → Hp → VK → Prop} (h1 : CallR X f r1) (h2 : CallR X f r2) : CallR X f (fun xs H Q => r1 xs H Q ∨ r2 xs H Q) := by
  intro pins s σ H xs us Q I rx h
  rcases h with h | h
  · exact h1 pins s σ H xs us Q I rx h
  · exact h2 pins s σ H xs us Q I rx h
def gLen : RD := fun ds _ K => match ds with
  | [.list xs] => K (.int xs.length) True
  | [.tuple xs] => K (.int xs.length) True
  | [.str z] => z.length ≤ sizeLine ∧ K (.int z.length) True
  | _ => False
theorem f_len : Fn X (.builtin "len") gLen := by
  refine ⟨_, call_len, ?_⟩
  intro D0 S σ o H vs ds c K Q E V hg k
  unfold gLen at hg
  split at hg
  · obtain ⟨v, rfl, U⟩ := vals1 V
    obtain ⟨a, ws, rfl, e, r, _⟩ := U.items E
    refine ⟨_, ws.length, rfl, .inl ⟨ws, SqL.at e, rfl⟩, ?_⟩
    rw [r.length]
    exact k _ _ _ H hg (Le.refl H) (Val.of (.int _))
  · obtain ⟨v, rfl, U⟩ := vals1 V
    obtain ⟨a, ws, rfl, e, r, _⟩ := U.titems E
    refine ⟨_, ws.length, rfl, .inr ⟨ws, SqT.at e, rfl⟩, ?_⟩
    rw [r.length]
    exact k _ _ _ H hg (Le.refl H) (Val.of (.int _))
  · obtain ⟨v, rfl, U⟩ := vals1 V
    cases U.1
    exact ⟨_, _, rfl, ⟨hg.1, rfl⟩, k _ _ _ H hg.2 (Le.refl H) (Val.of (.int _))⟩
  · exact hg.elim
def gInt : RD := fun ds _ K => match ds with
  | [.int i] => K (.int i) True
  | [.bool b] => K (.int (if b then 1 else 0)) True
  | _ => False
theorem f_int : Fn X (.type "int") gInt := by
  refine ⟨_, call_int1, ?_⟩
  intro D0 S σ o H vs ds c K Q E V hg k
  unfold gInt at hg
  split at hg
  · obtain ⟨v, rfl, U⟩ := vals1 V
    cases U.1
    exact .inl ⟨_, rfl, k _ _ _ H hg (Le.refl H) (Val.of (.int _))⟩
  · obtain ⟨v, rfl, U⟩ := vals1 V
    cases U.1
    exact .inr ⟨_, rfl, k _ _ _ H hg (Le.refl H) (Val.of (.int _))⟩
  · exact hg.elim
def gList : RDL := fun ds c K => match ds with
  | [.list xs] => K xs (c ∨ flats xs = true)
  | [.tuple xs] => K xs (c ∨ flats xs = true)
  | _ => False
theorem fo_list : FnO X (.type "list") gList := by
  refine ⟨_, call_list_of, ?_⟩
  intro D0 S σ o H vs ds c K Q E V hg k
  unfold gList at hg
  split at hg
  · obtain ⟨v, rfl, U⟩ := vals1 V
    obtain ⟨a, ws, rfl, e, r, rc⟩ := U.items E
    exact ⟨a, ws, rfl, .inl (SqL.at e), fun l hl => k _ _ ws l H hg (Le.refl H) hl ⟨r, rc⟩⟩
  · obtain ⟨v, rfl, U⟩ := vals1 V
    obtain ⟨a, ws, rfl, e, r, rc⟩ := U.titems E
    exact ⟨a, ws, rfl, .inr (SqT.at e), fun l hl => k _ _ ws l H hg (Le.refl H) hl ⟨r, rc⟩⟩
  · exact hg.elim
def gTuple : RD := fun ds c K => match ds with
  | [.list xs] => K (.tuple xs) (c ∨ flats xs = true)
  | [.tuple xs] => K (.tuple xs) c
  | _ => False
theorem f_tuple : Fn X (.type "tuple") gTuple := by
  refine ⟨_, call_tuple_of, ?_⟩
  intro D0 S σ o H vs ds c K Q E V hg k
  unfold gTuple at hg
  split at hg
  · obtain ⟨v, rfl, U⟩ := vals1 V
    obtain ⟨a, ws, rfl, e, r, rc⟩ := U.items E
    exact ⟨a, ws, rfl, .inl ⟨SqL.at e, fun l hl => k _ _ _ _ hg (Le.new hl) (Val.newT E hl ⟨r, rc⟩)⟩⟩
  · obtain ⟨v, rfl, U⟩ := vals1 V
    obtain ⟨a, ws, rfl, e, r, rc⟩ := U.titems E
    exact ⟨a, ws, rfl, .inr ⟨SqT.at e, k _ _ _ H hg (Le.refl H) U⟩⟩
  · exact hg.elim

/-! isinstance -/
def typD : PyData → String
  | .none => "NoneType"
  | .bool _ => "bool"
  | .int _ => "int"
  | .str _ => "str"
  | .list _ => "list"
  | .tuple _ => "tuple"
  | .dict _ => "dict"
def isT (T : String) (d : PyData) : Bool := match T, d with
  | "int", .int _ => true
  | "int", .bool _ => true
  | "bool", .bool _ => true
  | "str", .str _ => true
  | "list", .list _ => true
  | "tuple", .tuple _ => true
  | "dict", .dict _ => true
  | _, _ => false
theorem rp_ty {K : PySem.W.Frag} {H : Hp} {v : V} {d : PyData} (r : Rp (co H) v d) (hd : typD d ≠ "dict") : TyX K H v (.type (typD d)) := by
  cases r with
  | non => exact .base .non
  | bl b => exact .base (.bl b)
  | int i => exact .base (.int i)
  | str s => exact .base (.str s)
  | lst e _ => exact .base (.lst (co_lst e))
  | tup e _ => exact .base (.tup (co_tup e))
  | dK e _ => exact absurd rfl hd
  | dT e _ => exact absurd rfl hd
/-- T is one of the five that are asked for -/
def okT (T : String) : Bool := T == "int" || T == "bool" || T == "str" || T == "list" || T == "tuple"
def isTb (a T : String) : Bool := a == T || (a == "bool" && T == "int")
theorem kit_all : (["NoneType", "bool", "int", "str", "list", "tuple"].all fun a => ["int", "bool", "str", "list", "tuple"].all fun T => kitB a T == some (isTb a T)) = true := by decide +kernel
theorem kit_d {d : PyData} {T : String} (hd : typD d ≠ "dict") (hT : okT T = true) : kitB (typD d) T = some (isTb (typD d) T) := by
  have h := kit_all
  rw [List.all_eq_true] at h
  have hm : typD d ∈ ["NoneType", "bool", "int", "str", "list", "tuple"] := by
    cases d <;> simp [typD] at hd ⊢
  have h2 := h _ hm
  rw [List.all_eq_true] at h2
  have hT' : T ∈ ["int", "bool", "str", "list", "tuple"] := by
    simp [okT] at hT ⊢
    rcases hT with (((h | h) | h) | h) | h <;> simp [h]
  simpa using h2 T hT'
def wIsi (T : String) (we : WEx) : WEx := fun S A B => we S (fun d _ S1 => typD d ≠ "dict" ∧ A (.bool (isTb (typD d) T)) True S1) B
theorem se_isi {T : String} {x : Str} {p q : Pos} {e : Expr} {we : WEx} (he : SE X W e we) (hm : X.mg "isinstance" = none) (hmT : X.mg x = none) (hv : bootBuiltins x = some (.type T)) (hT : okT T = true) (hg : Gl X "isinstance" := by rfl) (hgT : Gl X x := by rfl) (hn : x ≠ "__name__" := by decide) (hdb : (x == ("__debug__" : Str)) = false := by decide)
    (hst : starEach [e, .Name x q] X.env = (false, eval e X.env) :: starEach [.Name x q] X.env := by rfl) (hst2 : starEach [.Name x q] X.env = (false, eval (.Name x q) X.env) :: starEach [] X.env := by rfl) (hpl : (backTo pos (starEach [.Name x q] X.env)).any (·.1) = false := by rfl) :
    SE X W (.Call (.Name "isinstance" p) [e, .Name x q] [] pos) (wIsi T we) := by
  obtain ⟨te, pe, se⟩ := he.ex
  refine ⟨_, pe_callB call_isi hg hm (by decide +kernel) (pa_cons pe (pa_cons (pe_bltn (v := .ty T) hgT hmT hv rfl hn hdb) pa_nil hst2) hst) (by decide) (by decide) hst hpl, ?_⟩
  intro D0 S σ H o A B Q E hw k kx
  refine se D0 S σ H o _ B _ E hw (fun d c S1 v H1 h1 E1 x1 V1 => ?_) kx
  exact ⟨v, .ty T, _, _, _, rfl, .ty T, rp_ty (V1.1.mono vt_le) h1.1, kit_ty (kit_d h1.1 hT), k _ _ S1 _ H1 h1.2 E1 x1 (Val.of (.bl _))⟩

/-! least, greatest, sum -/
def ints? : List PyData → Option (List Int)
  | [] => some []
  | .int i :: r => (ints? r).map (i :: ·)
  | _ :: _ => none
theorem ints?_map : ∀ ns : List Int, ints? (ns.map PyData.int) = some ns
  | [] => rfl
  | n :: r => by
    show (ints? (r.map PyData.int)).map (n :: ·) = _
    rw [ints?_map r]
    rfl
theorem ints?_of : ∀ {ds : List PyData} {ns : List Int}, ints? ds = some ns → ds = ns.map PyData.int
  | [], _, h => by cases h; rfl
  | .int i :: r, ns, h => by
    unfold ints? at h
    cases e : ints? r with
    | none => rw [e] at h; cases h
    | some l =>
      rw [e] at h
      cases h
      rw [ints?_of e]
      rfl
  | .none :: _, _, h => by cases h
  | .bool _ :: _, _, h => by cases h
  | .str _ :: _, _, h => by cases h
  | .list _ :: _, _, h => by cases h
  | .tuple _ :: _, _, h => by cases h
  | .dict _ :: _, _, h => by cases h
theorem alike_ints (n : Int) (ns : List Int) : PySem.W.AlikeAll ((n :: ns).map PyData.int) := by
  refine ⟨fun x hx y hy => ?_, fun x hx => ?_⟩
  · obtain ⟨a, _, rfl⟩ := List.mem_map.mp hx
    obtain ⟨b, _, rfl⟩ := List.mem_map.mp hy
    rfl
  · obtain ⟨a, _, rfl⟩ := List.mem_map.mp hx
    intro z
    cases z
theorem reads_ints {s : Heap} : ∀ {us : List Value} {ns : List Int}, PyProof.Rows.IntsAre us ns → ∃ as, ReadsAll s us (ns.map PyData.int) as
  | _, _, .nil => ⟨_, .nil⟩
  | _, _, .cons n t h => let ⟨as, r⟩ := reads_ints h; ⟨_, .cons (.int n t) r⟩
def rMxS (K : PySem.W.Frag) (f : Int → Int → Int) : List V → Hp → VK → Prop := fun vs H Q => ∃ (a : Addr) (n : Int) (ns : List Int), vs = [V.ref a] ∧ (H a = some (.lst ((n :: ns).map V.int)) ∨ H a = some (.tup ((n :: ns).map V.int))) ∧ Q (.int (ns.foldl f n)) H
theorem hu_mm {A : Around} {n : Int} {ns : List Int} (h : A.units + 64 < cLine) : A.units + 1 + PyData.depthAll ((n :: ns).map PyData.int) < cLine := by
  rw [PySem.W.depth_ints]
  omega
theorem cr_mx (a : At X W k) : CallR X (.builtin "max") (rMxS X.K max) := by
  intro pins s σ H vs us Q I r h
  obtain ⟨p, n, ns, rfl, hp, q⟩ := h
  rw [Vals.ref1 r]
  have fin : ∀ {h' : Heap} {tk : Nat} {v : Value} {bs : List Addr}, Reads h' v (PySem.W.maxD (.int n) (ns.map PyData.int)) bs → (∀ b o, s.heap.get? b = some o → h'.get? b = some o) → EP X pins σ Q v { s with heap := h', toks := tk } := fun {h' tk v bs} rd hk => by
    rw [PySem.W.maxD_ints] at rd
    cases rd
    exact ⟨.int _, H, I.kept hk, ⟨_, rfl⟩, q⟩
  rcases hp with hp | hp
  · obtain ⟨its, rv, hl, _⟩ := I.list (SqL.at hp)
    obtain ⟨as, rr⟩ := reads_ints (s := s.heap) rv.ints
    exact PySem.W.max_list_data (I.ok.hd a.calm) hl.isList (x := .int n) (xs := ns.map PyData.int) rr (alike_ints n ns) (hu_mm a.u64) fun i v h' tk bs _ rd hk => fin rd hk
  · obtain ⟨its, rv, hl, _⟩ := I.tuple (SqT.at hp)
    obtain ⟨as, rr⟩ := reads_ints (s := s.heap) rv.ints
    exact PySem.W.max_tuple_data (I.ok.hd a.calm) hl (x := .int n) (xs := ns.map PyData.int) rr (alike_ints n ns) (hu_mm a.u64) fun i v h' tk bs _ rd hk => fin rd hk
theorem cr_mn (a : At X W k) : CallR X (.builtin "min") (rMxS X.K min) := by
  intro pins s σ H vs us Q I r h
  obtain ⟨p, n, ns, rfl, hp, q⟩ := h
  rw [Vals.ref1 r]
  have fin : ∀ {h' : Heap} {tk : Nat} {v : Value} {bs : List Addr}, Reads h' v (PySem.W.minD (.int n) (ns.map PyData.int)) bs → (∀ b o, s.heap.get? b = some o → h'.get? b = some o) → EP X pins σ Q v { s with heap := h', toks := tk } := fun {h' tk v bs} rd hk => by
    rw [PySem.W.minD_ints] at rd
    cases rd
    exact ⟨.int _, H, I.kept hk, ⟨_, rfl⟩, q⟩
  rcases hp with hp | hp
  · obtain ⟨its, rv, hl, _⟩ := I.list (SqL.at hp)
    obtain ⟨as, rr⟩ := reads_ints (s := s.heap) rv.ints
    exact PySem.W.min_list_data (I.ok.hd a.calm) hl.isList (x := .int n) (xs := ns.map PyData.int) rr (alike_ints n ns) (hu_mm a.u64) fun i v h' tk bs _ rd hk => fin rd hk
  · obtain ⟨its, rv, hl, _⟩ := I.tuple (SqT.at hp)
    obtain ⟨as, rr⟩ := reads_ints (s := s.heap) rv.ints
    exact PySem.W.min_tuple_data (I.ok.hd a.calm) hl (x := .int n) (xs := ns.map PyData.int) rr (alike_ints n ns) (hu_mm a.u64) fun i v h' tk bs _ rd hk => fin rd hk
def gMM (f : Int → Int → Int) : RD := fun ds _ K => match ds with
  | [.list xs] => ∃ n ns, ints? xs = some (n :: ns) ∧ K (.int (ns.foldl f n)) True
  | [.tuple xs] => ∃ n ns, ints? xs = some (n :: ns) ∧ K (.int (ns.foldl f n)) True
  | _ => False
theorem fn_mm {f : Value} {g : Int → Int → Int} (h : CallR X f (rMxS X.K g)) : Fn X f (gMM g) := by
  refine ⟨_, h, ?_⟩
  intro D0 S σ o H vs ds c K Q E V hg k
  unfold gMM at hg
  split at hg
  · obtain ⟨v, rfl, U⟩ := vals1 V
    obtain ⟨a, ws, rfl, e, r, rc⟩ := U.items E
    obtain ⟨n, ns, hi, hg⟩ := hg
    rw [ints?_of hi] at r
    rw [r.ints] at e
    exact ⟨a, n, ns, rfl, .inl e, k _ _ _ H hg (Le.refl H) (Val.of (.int _))⟩
  · obtain ⟨v, rfl, U⟩ := vals1 V
    obtain ⟨a, ws, rfl, e, r, rc⟩ := U.titems E
    obtain ⟨n, ns, hi, hg⟩ := hg
    rw [ints?_of hi] at r
    rw [r.ints] at e
    exact ⟨a, n, ns, rfl, .inr e, k _ _ _ H hg (Le.refl H) (Val.of (.int _))⟩
  · exact hg.elim
theorem f_max (a : At X W k) : Fn X (.builtin "max") (gMM max) := fn_mm (cr_mx a)
theorem f_min (a : At X W k) : Fn X (.builtin "min") (gMM min) := fn_mm (cr_mn a)
/-- max(i, j), min(i, j) -/
def g2 (f : Int → Int → Int) : RD := fun ds _ K => match ds with
  | [.int i, .int j] => K (.int (f i j)) True
  | _ => False
theorem vals2 {D0 : Addr → Bool} {o : Ow} {H : Hp} {vs : List V} {i j : Int} {c : Prop} (h : Vals' D0 o H vs [.int i, .int j] c) : vs = [.int i, .int j] := by
  obtain ⟨h1, _⟩ := h
  cases h1 with
  | cons a b =>
    cases a
    cases b with
    | cons a b =>
      cases a
      cases b
      rfl
theorem f_max2 (a : At X W k) : Fn X (.builtin "max") (g2 fun i j => if j > i then j else i) := by
  refine ⟨_, call_max2 a.calm, ?_⟩
  intro D0 S σ o H vs ds c K Q E V hg k
  unfold g2 at hg
  split at hg
  · exact ⟨_, _, vals2 V, k _ _ _ H hg (Le.refl H) (Val.of (.int _))⟩
  · exact hg.elim
theorem f_min2 (a : At X W k) : Fn X (.builtin "min") (g2 fun i j => if j < i then j else i) := by
  refine ⟨_, call_min2 a.calm, ?_⟩
  intro D0 S σ o H vs ds c K Q E V hg k
  unfold g2 at hg
  split at hg
  · exact ⟨_, _, vals2 V, k _ _ _ H hg (Le.refl H) (Val.of (.int _))⟩
  · exact hg.elim

/-! sorted -/
def leD (x y : PyData) : Bool := PySem.W.dataLe false id x y
def gSorted : RDL := fun ds c K => match ds with
  | [.list xs] => xs.length ≤ sizeLine ∧ PySem.W.AllAlike xs ∧ PySem.W.Sortable xs ∧ (∀ x ∈ xs, PyData.canLay0 x = true ∧ x.depth ≤ 60) ∧ K (xs.mergeSort leD) (c ∨ flats xs = true)
  | _ => False
theorem rp_pairs {G : Hp} : ∀ {vs : List V} {ds : List PyData}, RpAll G vs ds → ∃ ps : List (V × PyData), ps.map (·.1) = vs ∧ ps.map (·.2) = ds
  | _, _, .nil => ⟨[], rfl, rfl⟩
  | _, _, .cons (v := v) (d := d) _ b => let ⟨ps, h1, h2⟩ := rp_pairs b; ⟨(v, d) :: ps, by simp [h1], by simp [h2]⟩
theorem rp_perm {G : Hp} {ps qs : List (V × PyData)} (h : ∀ p ∈ qs, p ∈ ps) (r : RpAll G (ps.map (·.1)) (ps.map (·.2))) : RpAll G (qs.map (·.1)) (qs.map (·.2)) := by
  have at_ : ∀ p ∈ ps, Rp G p.1 p.2 := by
    clear h
    induction ps with
    | nil => intro p hp; cases hp
    | cons x l ih =>
      intro p hp
      cases r with
      | cons a b =>
        rcases List.mem_cons.mp hp with z | z
        · subst z; exact a
        · exact ih b p z
  induction qs with
  | nil => exact .nil
  | cons x l ih => exact .cons (at_ x (h x List.mem_cons_self)) (ih fun p hp => h p (List.mem_cons_of_mem _ hp))
theorem each_vals : ∀ {ps : List (V × PyData)} {us : List Value}, Vals (ps.map (·.1)) us → PySem.W.EachIs (fun u p => RelV p.1 u) us ps
  | [], _, h => by cases h; exact .nil
  | p :: ps, _, h => by
    cases h with
    | cons a b => exact .cons a (each_vals b)
theorem vals_each : ∀ {ps : List (V × PyData)} {us : List Value}, PySem.W.EachIs (fun (u : Value) (p : V × PyData) => RelV p.1 u) us ps → Vals (ps.map (·.1)) us
  | _, _, .nil => .nil
  | _, _, .cons a b => .cons a (vals_each b)
theorem each_reads {pins : List (Addr × Obj)} {σ : St} {H : Hp} {s : Shared} (I : Inv X pins σ H s) : ∀ {ps : List (V × PyData)} {us : List Value}, Vals (ps.map (·.1)) us → RpAll (co H) (ps.map (·.1)) (ps.map (·.2)) → (∀ p ∈ ps, PyData.canLay0 p.2 = true) → PySem.W.EachIs (fun u p => ∃ as, Reads s.heap u p.2 as) us ps
  | [], _, h, _, _ => by cases h; exact .nil
  | p :: ps, _, h, r, c => by
    cases h with
    | cons a b =>
      cases r with
      | cons r1 r2 => exact .cons (Dp.reads I p.2 p.1 _ (Rp.dp r1 (c p List.mem_cons_self)) a) (each_reads I b r2 fun q hq => c q (List.mem_cons_of_mem _ hq))
def rSortedD : List V → Hp → VK → Prop := fun vs H Q => ∃ (a : Addr) (ps : List (V × PyData)), vs = [V.ref a] ∧ H a = some (.lst (ps.map (·.1))) ∧ RpAll (co H) (ps.map (·.1)) (ps.map (·.2)) ∧ (∀ p ∈ ps, PyData.canLay0 p.2 = true ∧ p.2.depth ≤ 60) ∧ PySem.W.AllAlike (ps.map (·.2)) ∧ PySem.W.Sortable (ps.map (·.2)) ∧
  ∀ q, H q = none → Q (.ref q) (upd H q (.lst ((ps.mergeSort (PySem.W.dataLe false (·.2))).map (·.1))))
theorem cr_sortedD (a : At X W k) : CallR X (.builtin "sorted") rSortedD := by
  intro pins s σ H vs us Q I r h
  obtain ⟨p, ps, rfl, hp, hr, hc, h1, h2, q⟩ := h
  obtain ⟨its, rv, hl, hz⟩ := I.list (SqL.at hp)
  rw [Vals.ref1 r]
  refine PySem.W.sorted_data (R := fun u p => RelV p.1 u) (bs := ps) (enc := (·.2)) hl.isList (each_vals rv) (each_reads I rv hr fun p hp => (hc p hp).1) h1 h2 (by rw [List.length_map] at hz; exact hz) (fun b hb => by have := (hc b hb).2; have := a.room.un; omega) fun out ho eo => ?_
  obtain ⟨ep, he'⟩ := PyProof.Rows.sortedAll_at s.heap its out.toArray
  refine ⟨.ref _, upd H (s.heap.objs.size + 1) (.lst ((ps.mergeSort (PySem.W.dataLe false (·.2))).map (·.1))), I.laid (t' := s.toks) (fun _ _ => PyProof.Rows.sortedAll_old) (Nat.le_succ _) ⟨?_, out, ep, vals_each eo, he'⟩, rfl, q _ (I.hok.fresh (Nat.le_succ _))⟩
  rw [List.length_map, List.length_mergeSort]
  rw [List.length_map] at hz
  exact hz
theorem sort_snd (ps : List (V × PyData)) : (ps.mergeSort (PySem.W.dataLe false fun (p : V × PyData) => p.2)).map (·.2) = (ps.map (·.2)).mergeSort leD :=
  PySem.W.sort_maps (r := PySem.W.dataLe false fun (p : V × PyData) => p.2) (s := leD) (fun p => p.2) fun _ _ _ _ => rfl
theorem fo_sorted (a : At X W k) : FnO X (.builtin "sorted") gSorted := by
  refine ⟨_, cr_sortedD a, ?_⟩
  intro D0 S σ o H vs ds c K Q E V hg k
  unfold gSorted at hg
  split at hg
  · obtain ⟨v, rfl, U⟩ := vals1 V
    obtain ⟨p, ws, rfl, e, r, rc⟩ := U.items E
    obtain ⟨h1, h2, h3, h4, hg⟩ := hg
    obtain ⟨ps, e1, e2⟩ := rp_pairs r
    subst e1
    subst e2
    refine ⟨p, ps, rfl, e, r.mono vt_le, fun x hx => h4 _ (List.mem_map_of_mem hx), h2, h3, fun q hq => ?_⟩
    rw [← sort_snd] at hg
    exact k _ _ _ q H hg (Le.refl H) hq ⟨rp_perm (fun x hx => List.mem_mergeSort.mp hx) r, fun hc => rp_perm (fun x hx => List.mem_mergeSort.mp hx) (rc hc)⟩
  · exact hg.elim
end
end Pu

namespace Pu
open PySem L2

/-! ### enumerate of a tuple -/
section
variable {prog : Program} {w : World} {A : Around} {E : Value → Shared → Prop} {s : Shared}
theorem meets_enumT (t : Addr) (items : Array Value) (n : Nat) (dct : Option Addr) (sl : Array (Option Value)) :
    Meets (Builtin.«enumerate.__new__» ⟨[.type "enumerate", .ref t], []⟩) (fun _ R s => s.heap.get? t = some { cls := .type "tuple", dict := dct, data := .seq items n, slots := sl } ∧
      R (.ok (.ret (.ref (s.heap.push { cls := .type "tuple_iterator", data := .fields #[.ref t, .int 0 0] }).objs.size)))
        { s with heap := (s.heap.push { cls := .type "tuple_iterator", data := .fields #[.ref t, .int 0 0] }).push { cls := .type "enumerate", data := .fields #[.none, .bool false, .ref s.heap.objs.size, rawInt 0, .none, .none] } }) :=
  .of_wp fun prog w A R s h => by
    obtain ⟨hp, g, d, tk, os⟩ := s
    obtain ⟨hl, h⟩ := h
    have hsub := sub_enumerate
    have hT : Heap.IsTuple (Shared.heap ⟨hp, g, d, tk, os⟩) t items := ⟨_, hl, rfl, n, rfl⟩
    wp_walk using AutoSeq1.wpAny_loadPart' hl
    refine wpAny_stack_any fun st => wpAny_pure ?_
    split
    · rename_i c _ _ _ _ _
      cases (c == Value.type "enumerate") <;>
        (wp_walk using AutoSeq1.wpAny_loadPart' hl, wpAny_pyIter_tuple hT
         exact ⟨_, rfl, h⟩)
    · wp_walk using AutoSeq1.wpAny_loadPart' hl, wpAny_pyIter_tuple hT
      exact ⟨_, rfl, h⟩
theorem call_enumT {t : Addr} {items : Array Value} {Q : Value → Shared → Prop} (hL : s.heap.IsTuple t items)
    (h : ∀ h', IsEnum h' (s.heap.objs.size + 1) s.heap.objs.size 0 .none → h'.IsTupleIter s.heap.objs.size t 0 → (∀ b o, s.heap.get? b = some o → h'.get? b = some o) → Q (.ref (s.heap.objs.size + 1)) { s with heap := h' }) :
    wpAny (model prog w) A (call (.type "enumerate") [.ref t]) Q E s := by
  obtain ⟨⟨c, dct, dt, sl⟩, hl, hc, n, hd⟩ := hL
  have hc' : c = .type "tuple" := hc
  have hd' : dt = .seq items n := hd
  subst hc' hd'
  refine callType_new F.called_enumerate (by decide) (F.typeCall_enumerate_1 _) (F.newCall_enumerate_1 _) (fun obj => F.args_object_init_2 obj _) F.entry_enumerate_new (meets_enumT t items n dct sl) ⟨hl, ?_⟩
  have hz : (s.heap.push { cls := .type "tuple_iterator", data := .fields #[.ref t, .int 0 0] }).objs.size = s.heap.objs.size + 1 := Heap.size_push ..
  rw [hz]
  have he : IsEnum ((s.heap.push { cls := .type "tuple_iterator", data := .fields #[.ref t, .int 0 0] }).push { cls := .type "enumerate", data := .fields #[.none, .bool false, .ref s.heap.objs.size, rawInt 0, .none, .none] }) (s.heap.objs.size + 1) s.heap.objs.size 0 .none := by
    have q := Heap.get?_push_size (s.heap.push { cls := .type "tuple_iterator", data := .fields #[.ref t, .int 0 0] }) (o := { cls := .type "enumerate", data := .fields #[.none, .bool false, .ref s.heap.objs.size, rawInt 0, .none, .none] }) rfl
    rw [hz] at q
    exact q
  exact ⟨⟨_, he, rfl⟩, h _ he ⟨_, Heap.get?_push_of_some _ (Heap.get?_push_size _ rfl), rfl, rfl⟩ fun b o x => Heap.get?_push_of_some _ (Heap.get?_push_of_some _ x)⟩
end
/-- the tuple at a, its items in new pairs with their places -/
def Iteu (K : PySem.W.Frag) (a : Addr) : It :=
  ⟨fun i H => ∃ xs x, SqT K H a xs ∧ xs[i]? = some x, fun i H v H' => ∃ T x, v = .ref T ∧ H T = none ∧ H' = upd H T (.tup [.int (i : Int), x]) ∧ ∀ xs, SqT K H a xs → xs[i]? = some x, fun i H => ∃ xs, SqT K H a xs ∧ xs.length = i⟩
theorem turn_enumT {P : Program} {w : World} {K : PySem.W.Frag} {elts : List Expr} {kk : Nat} {tpos : Pos} (a e it : Addr) :
    Turn P w K (.Tuple elts kk tpos) (Iteu K a) [e, it] e (fun i h => (∃ old, IsEnum h e it ((i : Nat) : Int) old) ∧ h.IsTupleIter it a i ∧ e ≠ it) where
  mem := by simp
  obj := fun i h st b hb => by
    obtain ⟨⟨old, he⟩, ⟨o, ho, hc, hd⟩, _⟩ := st
    have hb2 : b = e ∨ b = it := by simpa using hb
    rcases hb2 with z | z
    · rw [z]
      exact ⟨_, he, fun v q => nomatch q⟩
    · rw [z]
      exact ⟨o, ho, fun v q => by rw [hd] at q; cases q⟩
  keep := fun i h h' st k => let ⟨⟨old, he⟩, hi, hne⟩ := st; ⟨⟨old, k e (by simp) _ he⟩, hi.at fun o q => k it (by simp) o q, hne⟩
  item := by
    intro X hP hw hK hc i pins s σ H E I hf st hg
    subst hP hw hK
    obtain ⟨⟨old, he⟩, hit, hne⟩ := st
    obtain ⟨xs, x, hq, hx⟩ := hg
    obtain ⟨its, rv, p, hz⟩ := I.tuple hq
    obtain ⟨u, hu, ru⟩ := rv.get hx
    have hel : e < s.heap.objs.size := Heap.lt_size he
    have hil : it < s.heap.objs.size := by
      obtain ⟨_, q, _⟩ := hit
      exact Heap.lt_size q
    have pT : s.heap.IsTuple a its.toArray := p
    have hea : e ≠ a := fun z => by
      obtain ⟨o, ho, hc, n, hd⟩ := pT
      rw [← z, he] at ho
      cases ho
      cases hd
    have hita : a ≠ it := fun z => by
      obtain ⟨o, ho, hc, n, hd⟩ := pT
      obtain ⟨o', ho', hc', hd'⟩ := hit
      rw [z, ho'] at ho
      cases ho
      rw [hd'] at hd
      cases hd
    have hlt : i < its.toArray.size := by
      rw [List.size_toArray]
      exact (List.getElem?_eq_some_iff.mp hu).1
    refine wpAny_pyNext_enum_itemC (Draws.tuple (prog := X.prog) (w := X.w) (A := X.A.in1) (I.ok.hd hc) it a hita its.toArray) he ⟨hit, pT⟩ hlt hne (by simp [hne, hea]) fun y h' tk hy ho hit' hT hsz hk => ?_
    have hy' : y = u := by
      have q : its.toArray[i]? = some y := hy
      rw [List.getElem?_toArray, hu] at q
      exact (Option.some.inj q).symm
    subst hy'
    refine ⟨_, rfl, wpAny_letOwnedTupleGo_enum (s := { s with heap := h', toks := tk + 1 }) ho fun h2 he2 sb => ?_⟩
    have hT2 : h2.get? s.heap.objs.size = some { cls := .type "tuple", data := .seq #[.int i tk, y] } := (sb.2 _ (Nat.ne_of_gt hel)).trans hT
    have new : ObjOk X.prog X.w (upd H s.heap.objs.size (.tup [.int (i : Nat), x])) h2 s.heap.objs.size (.tup [.int (i : Nat), x]) :=
      ⟨by show 2 ≤ sizeLine; decide, [.int i tk, y], .cons ⟨_, rfl⟩ (.cons ru .nil), ⟨_, hT2, rfl, _, rfl⟩⟩
    have I1 : Inv X pins σ (upd H s.heap.objs.size (.tup [.int (i : Nat), x])) { s with heap := h2, toks := tk + 1 } :=
      I.turnedNew (ch := [e, it]) (fun b ob hb q => (sb.2 b (fun z => hb (by simp [z]))).trans (hk b ob (fun z => hb (by simp [z])) (fun z => hb (by simp [z])) q)) hf (Nat.le_refl _) new
    refine ⟨.ref s.heap.objs.size, _, I1, rfl, ⟨_, x, rfl, I.hok.fresh (Nat.le_refl _), rfl, fun ys hy => by rw [I.tuple_inj hy hq]; exact hx⟩, ⟨⟨y, ?_⟩, hit'.1.at fun o q => (sb.2 it (Ne.symm hne)).trans q, hne⟩, fun b hb => ?_⟩
    · have e1 : ((i + 1 : Nat) : Int) = (i : Int) + 1 := by omega
      rw [e1]
      exact he2
    · have hb2 : b < s.heap.objs.size := by
        have e' : b = e ∨ b = it := by simpa using hb
        rcases e' with z | z
        · rw [z]; exact hel
        · rw [z]; exact hil
      rw [upd_ne (Nat.ne_of_lt hb2)]
      exact (hf b hb).1
  done := by
    intro X hP hw hK hc i pins s σ H E I hf st hg
    subst hP hw hK
    obtain ⟨⟨old, he⟩, hit, hne⟩ := st
    obtain ⟨xs, hq, hx⟩ := hg
    obtain ⟨its, rv, p, hz⟩ := I.tuple hq
    obtain ⟨f0, f1, f2, f3, f4, f5⟩ := hf it (by simp)
    have hl := rv.length
    have pT : s.heap.IsTuple a its.toArray := p
    have hita : a ≠ it := fun z => by
      obtain ⟨o, ho, hc, n, hd⟩ := pT
      obtain ⟨o', ho', hc', hd'⟩ := hit
      rw [z, ho'] at ho
      cases ho
      rw [hd'] at hd
      cases hd
    have D := (Draws.tuple (prog := X.prog) (w := X.w) (A := X.A.in1) (I.ok.hd hc) it a hita its.toArray)
    have hn : i = its.toArray.size := by
      rw [List.size_toArray, ← hl]
      exact hx.symm
    exact wpAny_pyNext_enum_endD D he (by rw [← hn]; exact ⟨hit, pT⟩) fun h' eb => ⟨rfl, I.turned (t' := s.toks) (fun b o hb q => eb b o hb q) f0 f1 f3 f4 f5⟩
  self := fun A i s Q E st h => let ⟨⟨_, he⟩, _⟩ := st; wpAny_pyIter_enum he h
def iEnuT (K : PySem.W.Frag) (ta : TA) : TI := fun σ H R => ta σ H fun vs H1 => ∃ a xs, vs = [.ref a] ∧ SqT K H1 a xs ∧ R (Iteu K a) H1
theorem pi_enumT {X : Cx} {e : Expr} {ta : TA} {p pos tpos : Pos} {elts : List Expr} {kk : Nat} (hg : Gl X "enumerate") (hm : X.mg "enumerate" = none) (ha : PA X [e] ta) (hs : starEach [e] X.env = [(false, eval e X.env)] := by rfl) :
    PI X (.Tuple elts kk tpos) (.Call (.Name "enumerate" p) [e] [] pos) (iEnuT X.K ta) := by
  refine ⟨fun pins s σ H R I h => ?_⟩
  refine PyProof.Rows.Call_ (ld_blt I hg hm PyProof.Rows.boot_enumerate (PyProof.Rows.callWith_type1 (thn (ha.run pos pins s σ H _ I h) fun us s1 ⟨vs, H1, I1, r1, q1⟩ => ?_) hs rfl))
  obtain ⟨a, xs, ex, hq, q⟩ := q1
  subst ex
  rw [Vals.ref1 r1]
  obtain ⟨its, rv, p', hz⟩ := I1.tuple hq
  refine call_enumT (show s1.heap.IsTuple a its.toArray from p') fun h' he hit hk => wpAny_pyIter_enum he ?_
  have I2 : Inv X pins σ H1 { s1 with heap := h' } := I1.kept (t' := s1.toks) hk
  refine ⟨s1.heap.objs.size + 1, [s1.heap.objs.size + 1, s1.heap.objs.size], _, _, H1, rfl, I2, turn_enumT a (s1.heap.objs.size + 1) s1.heap.objs.size, ⟨⟨.none, he⟩, hit, Nat.succ_ne_self _⟩, fun b hb => ?_, q⟩
  have hb2 : b = s1.heap.objs.size + 1 ∨ b = s1.heap.objs.size := by simpa using hb
  have hle : s1.heap.objs.size ≤ b := by
    rcases hb2 with z | z
    · rw [z]; exact Nat.le_succ _
    · rw [z]; exact Nat.le_refl _
  exact I1.fpOk hle (I1.hok.fresh hle)

section
variable {X : Cx} {W : WM} {k : Nat} {pos : Pos}
def enumFr (n : Nat) : List PyData → List PyData
  | [] => []
  | d :: r => .tuple [.int (n : Int), d] :: enumFr (n + 1) r
theorem enumFr_len : ∀ (ds : List PyData) (n : Nat), (enumFr n ds).length = ds.length
  | [], _ => rfl
  | d :: r, n => by
    show (enumFr (n + 1) r).length + 1 = r.length + 1
    rw [enumFr_len r]
theorem enumFr_get : ∀ {ds : List PyData} {n i : Nat} {d : PyData}, (enumFr n ds)[i]? = some d → ∃ x, ds[i]? = some x ∧ d = .tuple [.int ((n + i : Nat) : Int), x]
  | [], _, _, _, h => by simp [enumFr] at h
  | x :: r, n, 0, d, h => ⟨x, rfl, (Option.some.inj h).symm⟩
  | x :: r, n, i + 1, d, h => by
    obtain ⟨y, h1, h2⟩ := enumFr_get (ds := r) (n := n + 1) (i := i) h
    refine ⟨y, h1, ?_⟩
    rw [h2]
    have e : n + 1 + i = n + (i + 1) := by omega
    rw [e]
theorem wk_enumT {K : PySem.W.Frag} {a : Addr} {ds : List PyData} {c : Prop} : Wk (Iteu K a) (enumFr 0 ds) c (zT a ds c) where
  go := fun D0 o H i z hi => (wk_tup (K := K)).go D0 o H i z (by rw [enumFr_len] at hi; exact hi)
  stop := fun D0 o H z => by
    obtain ⟨b, vs, e, h, r⟩ := rp_tup z.1
    cases e
    exact ⟨vs, SqT.at (co_tup (vt_le _ _ h)), by rw [enumFr_len, r.length]⟩
  yld := fun D0 S σ o H i x H' d z E hd y => by
    obtain ⟨T, y1, rfl, nT, rfl, hy⟩ := y
    obtain ⟨x2, hx2, rfl⟩ := enumFr_get hd
    obtain ⟨le, V⟩ := (wk_tup (K := K)).yld D0 S σ o H i y1 H x2 z E hx2 ⟨rfl, hy⟩
    refine ⟨Le.new nT, Val.newT E nT ⟨.cons ?_ (.cons V.1 .nil), fun hc => .cons ?_ (.cons (V.2 hc) .nil)⟩⟩
    · rw [Nat.zero_add]
      exact .int _
    · rw [Nat.zero_add]
      exact .int _
  xe := fun D0 D0' o H H' z l1 l2 => ⟨z.1.mono l1, fun hc => (z.2 hc).mono l2⟩
  fr := fun D0 o H o' H' hc z l => ⟨((z.2 hc).mono l).mono vw_le_vt, fun _ => (z.2 hc).mono l⟩
theorem wk_enumL {K : PySem.W.Frag} {a : Addr} {ds : List PyData} {c : Prop} : Wk (Ite K a) (enumFr 0 ds) c (zL a ds c) where
  go := fun D0 o H i z hi => (wk_list (K := K)).go D0 o H i z (by rw [enumFr_len] at hi; exact hi)
  stop := fun D0 o H z => by
    obtain ⟨b, vs, e, h, r⟩ := rp_lst z.1
    cases e
    exact ⟨vs, SqL.at (co_lst (vt_le _ _ h)), by rw [enumFr_len, r.length]; exact Nat.le_refl _⟩
  yld := fun D0 S σ o H i x H' d z E hd y => by
    obtain ⟨T, y1, rfl, nT, rfl, hy⟩ := y
    obtain ⟨x2, hx2, rfl⟩ := enumFr_get hd
    obtain ⟨le, V⟩ := (wk_list (K := K)).yld D0 S σ o H i y1 H x2 z E hx2 ⟨rfl, hy⟩
    refine ⟨Le.new nT, Val.newT E nT ⟨.cons ?_ (.cons V.1 .nil), fun hc => .cons ?_ (.cons (V.2 hc) .nil)⟩⟩
    · rw [Nat.zero_add]
      exact .int _
    · rw [Nat.zero_add]
      exact .int _
  xe := fun D0 D0' o H H' z l1 l2 => ⟨z.1.mono l1, fun hc => (z.2 hc).mono l2⟩
  fr := fun D0 o H o' H' hc z l => ⟨((z.2 hc).mono l).mono vw_le_vt, fun _ => (z.2 hc).mono l⟩
def wEnT (wl : WEx) : WLs := fun S A B => wl S (fun d c S1 => match d with
  | .tuple ds => A (enumFr 0 ds) (c ∨ flats ds = true) S1
  | _ => False) B
def wEnL (wl : WEx) : WLs := fun S A B => wl S (fun d c S1 => match d with
  | .list ds => A (enumFr 0 ds) c S1
  | _ => False) B
theorem si_enT {e : Expr} {p tpos : Pos} {elts : List Expr} {kk : Nat} {we : WEx} (a : At X W k) (hm : X.mg "enumerate" = none) (he : SE X W e we) (hg : Gl X "enumerate" := by rfl) (hs : starEach [e] X.env = [(false, eval e X.env)] := by rfl) :
    SI X W (.Tuple elts kk tpos) (.Call (.Name "enumerate" p) [e] [] pos) (wEnT we) := by
  obtain ⟨te, pe, se⟩ := he.ex
  refine ⟨_, pi_enumT hg hm (pa_cons pe pa_nil hs) hs, ?_⟩
  intro D0 S σ H o A B R E hw k kx
  refine se D0 S σ H o _ B _ E hw (fun d c S1 v H1 h1 E1 x1 V1 => ?_) kx
  split at h1
  · have V2 := V1.flat E1
    obtain ⟨a, vs, rfl, e, r, _⟩ := V1.titems E1
    exact ⟨a, vs, rfl, SqT.at e, k _ _ S1 _ H1 _ h1 E1 x1 wk_enumT ⟨V2.1, fun z => V2.2 (z.elim .inl fun f => .inr (by rw [flat]; exact f))⟩⟩
  · exact h1.elim
theorem si_enL {e : Expr} {p tpos : Pos} {elts : List Expr} {kk : Nat} {we : WEx} (a : At X W k) (hm : X.mg "enumerate" = none) (he : SE X W e we) (hg : Gl X "enumerate" := by rfl) (hs : starEach [e] X.env = [(false, eval e X.env)] := by rfl) :
    SI X W (.Tuple elts kk tpos) (.Call (.Name "enumerate" p) [e] [] pos) (wEnL we) := by
  obtain ⟨te, pe, se⟩ := he.ex
  refine ⟨_, pi_enum hg hm (pa_cons pe pa_nil hs) hs, ?_⟩
  intro D0 S σ H o A B R E hw k kx
  refine se D0 S σ H o _ B _ E hw (fun d c S1 v H1 h1 E1 x1 V1 => ?_) kx
  split at h1
  · obtain ⟨a, vs, rfl, e, r, _⟩ := V1.items E1
    exact ⟨a, vs, rfl, SqL.at e, k _ _ S1 _ H1 _ h1 E1 x1 wk_enumL ⟨V1.1, V1.2⟩⟩
  · exact h1.elim

/-! ### not of a list, -n, a chain as a test -/
def wNotT (wa : WEx) : WEx := fun S A B => wa S (fun d _ S1 => match d with
  | .list xs => A (.bool xs.isEmpty) True S1
  | .tuple xs => A (.bool xs.isEmpty) True S1
  | _ => False) B
theorem se_notT {a : Expr} {wa : WEx} (ha : SE X W a wa) : SE X W (.UnaryOp .Not a pos) (wNotT wa) := by
  obtain ⟨ta, pa, sa⟩ := ha.ex
  refine ⟨_, pe_notT pa, ?_⟩
  intro D0 S σ H o A B Q E hw k kx
  refine sa D0 S σ H o _ B _ E hw (fun d c S1 v H1 h1 E1 x1 V1 => ?_) kx
  split at h1
  · obtain ⟨a, vs, rfl, e, r, _⟩ := V1.items E1
    refine ⟨_, .inl ⟨vs, SqL.at e, rfl⟩, ?_⟩
    rw [Bool.not_not, rp_isEmpty r]
    exact k _ _ S1 _ H1 h1 E1 x1 (Val.of (.bl _))
  · obtain ⟨a, vs, rfl, e, r, _⟩ := V1.titems E1
    refine ⟨_, .inr (.inl ⟨vs, SqT.at e, rfl⟩), ?_⟩
    rw [Bool.not_not, rp_isEmpty r]
    exact k _ _ S1 _ H1 h1 E1 x1 (Val.of (.bl _))
  · exact h1.elim
def wNeg (wa : WEx) : WEx := fun S A B => wa S (fun d _ S1 => match d with
  | .int i => A (.int (-i)) True S1
  | _ => False) B
theorem se_neg {a : Expr} {wa : WEx} (ha : SE X W a wa) : SE X W (.UnaryOp .USub a pos) (wNeg wa) := by
  obtain ⟨ta, pa, sa⟩ := ha.ex
  refine ⟨_, pe_un un_neg pa, ?_⟩
  intro D0 S σ H o A B Q E hw k kx
  refine sa D0 S σ H o _ B _ E hw (fun d c S1 v H1 h1 E1 x1 V1 => ?_) kx
  split at h1
  · cases V1.1
    exact ⟨_, rfl, k _ _ S1 _ H1 h1 E1 x1 (Val.of (.int _))⟩
  · exact h1.elim
theorem st_chain {op op' : CmpOp} {g g' : R2D} {a b c : Expr} {wa wb wc : WEx} (ho : Op2 X (compareOp op) g) (ho' : Op2 X (compareOp op') g') (ha : SE X W a wa) (hb : SE X W b wb) (hc : SE X W c wc)
    (hm : lastMarks [op, op'] [b, c] = false := by with_unfolding_all rfl) : ST X W (.Compare a [op, op'] [b, c] pos) (wB (wChain g g' wa wb wc)) := by
  obtain ⟨ta, pa, sa⟩ := ha.ex
  obtain ⟨tb, pb, sb⟩ := hb.ex
  obtain ⟨tc, pc, sc⟩ := hc.ex
  obtain ⟨r, hr, h⟩ := ho.ex
  obtain ⟨r', hr', h'⟩ := ho'.ex
  refine ⟨_, pt_chain hr hr' pa pb pc hm, ?_⟩
  intro D0 S σ H o A B Q E hw k kx
  refine sa D0 S σ H o _ B _ E hw (fun d c S1 v H1 h1 E1 x1 V1 => ?_) kx
  refine sb D0 S1 σ H1 o _ B _ E1 h1 (fun d2 c2 S2 v2 H2 h2 E2 x2 V2 => ?_) (kx.on x1)
  refine h D0 S2 σ o H2 v v2 d d2 c c2 _ _ E2 (V1.mono x2) V2 h2 fun z dz cz H3 hz le V => ?_
  have x3 := (x1.trans x2).trans (XE.of le)
  have E3 := E2.xe le
  have V2' := V2.mono (XE.of le)
  obtain ⟨b, rfl, hz⟩ := bl_rp V.1 hz
  refine ⟨b, rfl, ?_⟩
  cases b with
  | true =>
    rw [if_pos rfl] at hz ⊢
    refine sc D0 S2 σ H3 o _ B _ E3 hz (fun d4 c4 S4 v4 H4 h4 E4 x4 V4 => ?_) (kx.on x3)
    refine h' D0 S4 σ o H4 v2 v4 d2 d4 c2 c4 _ _ E4 (V2'.mono x4) V4 h4 fun z' dz' cz' H' hz' le' V' => ?_
    obtain ⟨b, rfl, hb⟩ := bl_rp V'.1 hz'
    exact ⟨b, rfl, k b S4 H' hb (E4.xe le') ((x3.trans x4).trans (XE.of le'))⟩
  | false =>
    rw [if_neg Bool.false_ne_true] at hz ⊢
    exact ⟨false, rfl, k false S2 H3 hz E3 x3⟩

/-! ### raise X(), X a class of the text without __init__ -/
structure RaiseC (K : PySem.W.Frag) (mg : Str → Option Value) (x : Str) : Prop where
  ex : ∃ C, mg x = some (.ref C) ∧ PySem.W.keepIn K (.ref C) = true ∧ PySem.W.excIn K C [.type "ValueError", .type "Exception", .type "BaseException", .type "object"] "ValueError.__new__" = true ∧
    PySem.W.subIn K (.ref C) (.type "BaseException") = some true ∧ PySem.W.typeIn K (.ref C) = some (.type "type")
theorem pmk_own0 {C : Addr} {bmB : List Value} {B newId initId : String} {x : Str} {p pos : Pos} (F : ExcBaseFacts B newId initId bmB) (q : PySem.W.excIn X.K C bmB newId = true) (gC : X.mg x = some (.ref C)) (kC : PySem.W.keepIn X.K (.ref C) = true) (r : Raises X (.ref C)) (hg : Gl X x)
    (hdb : (x == ("__debug__" : Str)) = false := by decide) : PMk X (.Call (.Name x p) [] [] pos) (fun _ H Q => Q (.ref C) none H) := by
  intro pins s σ H Q I h
  refine wpAny_Call_Name_kw (ld_glob I hg gC ?_ hdb)
  refine PySem.W.callWith_K0 I.kIn kC ?_
  show wpAny _ _ (call (.ref C) []) _ _ _
  obtain ⟨bm, N, nm, qn, bs, hdct, sn, sub, ab, col, dd, k0, k1, k2, k3, k5, mN, hC, hN, hni, T⟩ := exc_obj I.kIn q
  refine PySem.wpAny_call_exc_subT F T hC hN hni (fun h' e hm => ?_) (by show 0 ≤ sizeLine; exact Nat.zero_le _)
  exact mk_of I hm r h (I.hok.gone hm.new)
def wRaise (x : Str) : WS := fun S P => P.ex (x, []) S
theorem ss_raise {x : Str} {p cp : Pos} (a : At X W k) (R : RaiseC X.K X.mg x) (hg : Gl X x := by rfl) (hdb : (x == ("__debug__" : Str)) = false := by decide) : SS X W (.Raise (some (.Call (.Name x p) [] [] cp)) none pos) (wRaise x) := by
  obtain ⟨C, gC, kC, q, h1, h2⟩ := R.ex
  refine ⟨_, ps_raise a.calm a.tx (pmk_own0 PySem.F.excBase_ValueError q gC kC (raises_own h1 h2) hg hdb), ?_⟩
  intro D0 S σ H o P D E hw g
  exact g.ex _ _ _ _ _ _ _ hw E (Fr.refl _ _) ⟨⟨C, by rw [a.mq]; exact gC, rfl⟩, .inl ⟨rfl, rfl⟩⟩
end
end Pu

namespace Pu
open PySem L2

/-! ### the source of draws -/
def RngAt (H : Hp) (a c : Addr) : Prop := ∃ (st ix : Int) (ns : List Int), H a = some (.lst [.int st, .ref c, .int ix]) ∧ H c = some (.lst (ns.map V.int)) ∧ ns.length ≤ 63
/-- all but a and c stands -/
def But (a c : Addr) (H H' : Hp) : Prop := ∀ b u, b ≠ a → b ≠ c → H b = some u → H' b = some u
/-- _law_next(h, n): a number below n -/
def spNext : Sp := fun vs H Q _ => ∃ (a c : Addr) (n : Int), vs = [.ref a, .int n] ∧ a ≠ c ∧ RngAt H a c ∧ 1 ≤ n ∧ n ≤ 10 ^ 31 ∧ ∀ r H', 0 ≤ r → r < n → But a c H H' → RngAt H' a c → Q (.int r) H'
/-- _law_mix(script, seed) -/
def spMix (K : PySem.W.Frag) : Sp := fun vs H Q _ => ∃ (a : Addr) (ns : List Int) (seed : Int), vs = [.ref a, .int seed] ∧ SqL K H a (ns.map V.int) ∧ ns.length ≤ 63 ∧
  ∀ p c H', H p = none → H c = none → p ≠ c → Le H H' → RngAt H' p c → Q (.ref p) H'
def orng (a c : Addr) (i : Nat) (o : Ow) : Ow := fun b => if b = a ∨ b = c then some (i, true) else o b

section
variable {X : Cx} {W : WM} {k : Nat} {pos : Pos}
theorem rng_of {H : Hp} {a c : Addr} {st ix : Int} {ns : List Int} (h1 : co H a = some (.lst [.int st, .ref c, .int ix])) (h2 : co H c = some (.lst (ns.map V.int))) (h3 : ns.length ≤ 63) : RngAt H a c := ⟨st, ix, ns, co_lst h1, co_lst h2, h3⟩
theorem RngAt.co {H : Hp} {a c : Addr} (h : RngAt H a c) : ∃ (st ix : Int) (ns : List Int), Pu.co H a = some (.lst [.int st, .ref c, .int ix]) ∧ Pu.co H c = some (.lst (ns.map V.int)) ∧ ns.length ≤ 63 := by
  obtain ⟨st, ix, ns, h1, h2, h3⟩ := h
  exact ⟨st, ix, ns, co_of h1, co_of h2, h3⟩
/-- the frame's source of draws has turned -/
theorem Env.turn {D0 : Addr → Bool} {S : Slots} {σ : St} {H H' : Hp} {o : Ow} {a c : Addr} {i : Nat} (E : Env D0 S σ (co H) o) (ha : o a = some (i, true)) (hc : o c = some (i, true)) (hi : S[i]? = some (.rng a c)) (hσ : σ[i]? = some (some (.ref a))) (hac : a ≠ c) (b : But a c H H') (r : RngAt H' a c) :
    Env D0 S σ (co H') o ∧ XE o H H' := by
  have x : XE o H H' := fun d u m e => b d u (fun z => by rw [z, ha] at m; cases m) (fun z => by rw [z, hc] at m; cases m) e
  obtain ⟨st, ix, ns, r1, r2, r3⟩ := r.co
  have cx : ∀ d u, d ≠ a → d ≠ c → co H d = some u → co H' d = some u := fun d u n1 n2 h => by
    unfold co at h ⊢
    cases z : H d with
    | none => rw [z] at h; cases h
    | some y => rw [b d y n1 n2 z]; rw [z] at h; exact h
  refine ⟨⟨E.len, fun d p e => ?_, fun d e => ?_, fun j s e => ?_⟩, x⟩
  · obtain ⟨h1, u, h2, h3⟩ := E.live d p e
    refine ⟨h1, ?_⟩
    by_cases n1 : d = a
    · subst n1; exact ⟨_, r1, rfl⟩
    · by_cases n2 : d = c
      · subst n2; exact ⟨_, r2, rfl⟩
      · exact ⟨u, cx _ _ n1 n2 h2, h3⟩
  · obtain ⟨u, h2, h3⟩ := E.dead d e
    have n1 : d ≠ a := fun z => by rw [z, (E.live a _ ha).1] at e; cases e
    have n2 : d ≠ c := fun z => by rw [z, (E.live c _ hc).1] at e; cases e
    exact ⟨u, cx _ _ n1 n2 h2, h3⟩
  · by_cases z : j = i
    · subst z
      rw [hi] at e
      cases e
      exact ⟨st, ix, ns, hσ, ha, hc, hac, r1, r2, r3⟩
    · have ne : ∀ {d : Addr} {b : Bool}, o d = some (j, b) → d ≠ a ∧ d ≠ c := fun {d b} e => ⟨fun q => (by rw [q, ha] at e; cases e; exact z rfl), fun q => (by rw [q, hc] at e; cases e; exact z rfl)⟩
      exact (E.sl j s e).move x.vw fun d b u h1 h2 => ⟨h1, cx _ _ (ne h1).1 (ne h1).2 h2⟩
/-- _law_next(h, e) -/
def wDraw (i : Nat) (we : WEx) : WEx := fun S A B => ∃ a c, S[i]? = some (.rng a c) ∧ we S (fun d _ S1 => match d with
  | .int n => S1[i]? = some (.rng a c) ∧ 1 ≤ n ∧ n ≤ 10 ^ 31 ∧ ∀ r, 0 ≤ r → r < n → A (.int r) True S1
  | _ => False) B
theorem se_draw {j : Nat} (i : Nat) {x : Str} {p q : Pos} {e : Expr} {we : WEx} (a : At X W k) (F : Def X.prog X.w X.K X.mg X.base j "_law_next" 2 spNext) (hj : j ≤ k) (he : SE X W e we) (hN : X.N[i]? = some x := by rfl) (hv : Vis X.env.scope x := by first | exact Or.inl rfl | exact Or.inr (Or.inl rfl) | exact Or.inr (Or.inr rfl))
    (hd : (x == ("__debug__" : Str)) = false := by decide) (hcd : (x == ("__classdict__" : Str)) = false := by decide) (hg : Gl X "_law_next" := by rfl)
    (hst : starEach [.Name x q, e] X.env = (false, eval (.Name x q) X.env) :: starEach [e] X.env := by rfl) (hst2 : starEach [e] X.env = (false, eval e X.env) :: starEach [] X.env := by rfl) (hpl : (backTo pos (starEach [e] X.env)).any (·.1) = false := by rfl) :
    SE X W (.Call (.Name "_law_next" p) [.Name x q, e] [] pos) (wDraw i we) := by
  obtain ⟨te, pe, se⟩ := he.ex
  obtain ⟨f, fd, ps, G, hm, hk, hb, hps⟩ := F.ex
  refine ⟨_, pe_callS G (a.room.mono hj) hg hm hk hb a.tk (pa_cons (pe_var hN hv hd hcd) (pa_cons pe pa_nil hst2) hst) (by decide) hst hpl, ?_⟩
  intro D0 S σ H o A B Q E hw kk kx
  obtain ⟨ra, rc, h0, hw⟩ := hw
  obtain ⟨st, ix, ns, h1, h2, h3, h4, h5, h6, h7⟩ := E.sl i _ h0
  refine ⟨.ref ra, h1, se D0 S σ H o _ B _ E hw (fun d c S1 v H1 h8 E1 x1 V1 => ?_) kx⟩
  split at h8
  · obtain ⟨g1, g2, g3, g4⟩ := h8
    cases V1.1
    obtain ⟨st', ix', ns', m1, m2, m3, m4, m5, m6, m7⟩ := E1.sl i _ g1
    refine ⟨ra, rc, _, rfl, m4, rng_of m5 m6 m7, g2, g3, fun r H' r0 rn bt rg => ?_⟩
    obtain ⟨E2, x2⟩ := E1.turn m2 m3 g1 h1 m4 bt rg
    exact kk _ _ S1 _ H' (g4 r r0 rn) E2 (x1.trans x2) (Val.of (.int _))
  · exact h8.elim

/-! ### defs whose first parameter is the source of draws -/
def spOfR (mg : Str → Option Value) (n : Nat) (sp : Spc) : Sp := fun vs H Q E => ∃ (a c : Addr) (us : List V) (ds : List PyData) (D0 : Addr → Bool) (A : PyData → Prop) (B : XC → Prop), vs = .ref a :: us ∧ a ≠ c ∧ RngAt H a c ∧ ds.length = n ∧
  D0 a = false ∧ D0 c = false ∧ (∀ b, D0 b = true → ∃ u, co H b = some u ∧ isTup u = false) ∧ RpAll (vw D0 (orng a c 0 fun _ => none) (co H)) us ds ∧ sp ds A B ∧
  (∀ d v H', A d → But a c H H' → RngAt H' a c → Rp (vw D0 (orng a c 0 fun _ => none) (co H')) v d → Q v H') ∧ (∀ x cls dd H', B x → But a c H H' → RngAt H' a c → XOk mg H' x cls dd → E cls dd H')
theorem spOfR_len {mg : Str → Option Value} {n : Nat} {sp : Spc} {vs : List V} {H : Hp} {Q : VK} {E : XK} (h : spOfR mg n sp vs H Q E) : vs.length = n + 1 := by
  obtain ⟨a, c, us, ds, D0, A, B, rfl, _, _, h1, _, _, _, h2, _⟩ := h
  rw [List.length_cons, h2.length, h1]
def wCallR (i : Nat) (sp : Spc) (wa : WLs) : WEx := fun S A B => ∃ a b, S[i]? = some (.rng a b) ∧ wa S (fun ds c S1 => S1[i]? = some (.rng a b) ∧ sp ds (fun d => A d c S1) (fun x => B x S1)) B
theorem vw_borrow {D0 : Addr → Bool} {o : Ow} {C : Hp} {a c : Addr} {p q : Nat × Bool} (ha : o a = some p) (hc : o c = some q) :
    vw (fun b => (D0 b || (o b).isSome) && !decide (b = a) && !decide (b = c)) (orng a c 0 fun _ => none) C = vw D0 o C := by
  funext b
  unfold vw orng
  by_cases z1 : b = a
  · subst z1; simp [ha]
  · by_cases z2 : b = c
    · subst z2; simp [hc]
    · simp [z1, z2]
theorem vt_borrow {D0 : Addr → Bool} {o : Ow} {C : Hp} {a c : Addr} {i : Nat} (ha : o a = some (i, true)) (hc : o c = some (i, true)) :
    vw (fun b => (D0 b || mutO (o b)) && !decide (b = a) && !decide (b = c)) (orng a c 0 fun _ => none) C = vt D0 o C := by
  funext b
  unfold vw vt orng
  by_cases z1 : b = a
  · subst z1; simp [ha, mutO]
  · by_cases z2 : b = c
    · subst z2; simp [hc, mutO]
    · simp [z1, z2]
theorem se_callR {j n : Nat} (i : Nat) {sp : Spc} {x y : Str} {p q : Pos} {es : List Expr} {wa : WLs} (a : At X W k) (F : Def X.prog X.w X.K X.mg X.base j y (n + 1) (spOfR X.mg n sp)) (hj : j ≤ k) (ha : SA X W es wa) (hN : X.N[i]? = some x := by rfl) (hv : Vis X.env.scope x := by first | exact Or.inl rfl | exact Or.inr (Or.inl rfl) | exact Or.inr (Or.inr rfl))
    (hd : (x == ("__debug__" : Str)) = false := by decide) (hcd : (x == ("__classdict__" : Str)) = false := by decide) (hg : Gl X y := by rfl) (hdb : (y == ("__debug__" : Str)) = false := by decide)
    (hst : starEach (.Name x q :: es) X.env = (false, eval (.Name x q) X.env) :: starEach es X.env := by rfl) (hpl : (backTo pos (starEach es X.env)).any (·.1) = false := by rfl) (hn : es.length = n := by rfl) :
    SE X W (.Call (.Name y p) (.Name x q :: es) [] pos) (wCallR i sp wa) := by
  obtain ⟨ta, pa, sa⟩ := ha.ex
  obtain ⟨f, fd, ps, G, hm, hk, hb, hps⟩ := F.ex
  refine ⟨_, pe_callS G (a.room.mono hj) hg hm hk hb a.tk (pa_cons (pe_var hN hv hd hcd) pa hst) hdb hst hpl, ?_⟩
  intro D0 S σ H o A B Q E hw kk kx
  obtain ⟨ra, rc, h0, hw⟩ := hw
  obtain ⟨st, ix, ns, h1, h2, h3, h4, h5, h6, h7⟩ := E.sl i _ h0
  refine ⟨.ref ra, h1, sa D0 S σ H o _ B _ E hw (fun ds c S1 vs H1 hl h8 E1 x1 V1 => ?_) kx⟩
  obtain ⟨g1, h8⟩ := h8
  obtain ⟨st', ix', ns', m1, m2, m3, m4, m5, m6, m7⟩ := E1.sl i _ g1
  have ends : ∀ H', But ra rc H1 H' → RngAt H' ra rc → Env D0 S1 σ (co H') o ∧ XE o H1 H' := fun H' bt rg => E1.turn m2 m3 g1 h1 m4 bt rg
  have ex : ∀ x cls dd H', B x S1 → But ra rc H1 H' → RngAt H' ra rc → XOk X.mg H' x cls dd → W.w cls dd σ H' := fun x cls dd H' hx bt rg ok => by
    obtain ⟨E2, x2⟩ := ends H' bt rg
    exact kx x S1 cls dd H' hx E2 (x1.trans x2) (by rw [a.mq]; exact ok)
  by_cases hc : c
  · refine ⟨ra, rc, vs, ds, fun b => (D0 b || (o b).isSome) && !decide (b = ra) && !decide (b = rc), _, _, rfl, m4, rng_of m5 m6 m7, hl.trans hn, by simp, by simp, fun b hb => E1.deadV b (by simp at hb; simpa using hb.1.1), by rw [vw_borrow m2 m3]; exact V1.2 hc, h8, fun d v H' hd bt rg r => ?_, ex⟩
    obtain ⟨E2, x2⟩ := ends H' bt rg
    rw [vw_borrow m2 m3] at r
    exact kk d c S1 v H' hd E2 (x1.trans x2) ⟨r.mono vw_le_vt, fun _ => r⟩
  · refine ⟨ra, rc, vs, ds, fun b => (D0 b || mutO (o b)) && !decide (b = ra) && !decide (b = rc), _, _, rfl, m4, rng_of m5 m6 m7, hl.trans hn, by simp, by simp, fun b hb => E1.deadM b (by simp at hb; simpa using hb.1.1), by rw [vt_borrow m2 m3]; exact V1.1, h8, fun d v H' hd bt rg r => ?_, ex⟩
    obtain ⟨E2, x2⟩ := ends H' bt rg
    rw [vt_borrow m2 m3] at r
    exact kk d c S1 v H' hd E2 (x1.trans x2) ⟨r, fun z => absurd z hc⟩
theorem env_startR {D0 : Addr → Bool} {N : List Str} {us : List V} {ds : List PyData} {H : Hp} {a c : Addr} (hac : a ≠ c) (rg : RngAt H a c) (d1 : D0 a = false) (d2 : D0 c = false) (hd : ∀ b, D0 b = true → ∃ u, co H b = some u ∧ isTup u = false) (r : RpAll (vw D0 (orng a c 0 fun _ => none) (co H)) us ds) (hN : 1 ≤ N.length) :
    Env D0 (.rng a c :: startS (N.length - 1) ds) (L2.start N (.ref a :: us)) (co H) (orng a c 0 fun _ => none) := by
  obtain ⟨st, ix, ns, r1, r2, r3⟩ := rg.co
  have es : L2.start N (.ref a :: us) = some (.ref a) :: (us.map some ++ List.replicate (N.length - 1 - us.length) none) := by
    unfold L2.start
    rw [List.map_cons, List.cons_append, List.length_cons]
    have e : N.length - (us.length + 1) = N.length - 1 - us.length := by omega
    rw [e]
  refine ⟨?_, fun b p e => ?_, hd, fun i s e => ?_⟩
  · rw [es]
    unfold startS
    simp [r.length]
  · unfold orng at e
    split at e
    · rename_i hb
      rcases hb with hb | hb
      · subst hb; exact ⟨d1, _, r1, rfl⟩
      · subst hb; exact ⟨d2, _, r2, rfl⟩
    · cases e
  · rw [es]
    cases i with
    | zero =>
      cases e
      exact ⟨st, ix, ns, rfl, if_pos (.inl rfl), if_pos (.inr rfl), hac, r1, r2, r3⟩
    | succ i =>
      rw [List.getElem?_cons_succ] at e ⊢
      unfold startS at e
      by_cases hi : i < ds.length
      · rw [List.getElem?_append_left (by simpa using hi), List.getElem?_map, List.getElem?_eq_getElem hi] at e
        cases e
        obtain ⟨v, h1, h2⟩ := r.get (List.getElem?_eq_getElem hi)
        refine ⟨v, ?_, h2⟩
        rw [List.getElem?_append_left (by simpa [r.length] using hi), List.getElem?_map, h1]
        rfl
      · rw [List.getElem?_append_right (by simpa using hi), List.getElem?_replicate] at e
        split at e
        · cases e
          trivial
        · cases e
section
variable {P : Program} {w : World} {K : PySem.W.Frag} {mg : Str → Option Value} {base : Heap}
/-- THE RULE for a def whose first parameter is the source of draws -/
theorem def_okR {x : Str} {st : Stmt} {f : Addr} {fd : FuncData} {N ps : List Str} {k : Nat} {sp : Spc} (F : Fun K x x st f fd) (S : FnScope N ps (defScope st)) (hp : 1 ≤ ps.length) (hN : 1 ≤ N.length)
    (hb : ∀ (cdv : Value) (A : Around) (outer : List PySem.Env) (s : Shared) (H : Hp) (E : XK), At (cxOf (L2.CX P w) P w K mg base N x (defScope st) f cdv A outer s H E) ⟨mg, fun cls d _ H' => E cls d H'⟩ k →
      ∃ wb, SSs (cxOf (L2.CX P w) P w K mg base N x (defScope st) f cdv A outer s H E) ⟨mg, fun cls d _ H' => E cls d H'⟩ (defBody st) wb ∧
        ∀ ds A B a c, ds.length = ps.length - 1 → sp ds A B → wb (.rng a c :: startS (N.length - 1) ds) ⟨fun S => S[0]? = some (.rng a c) ∧ A .none, fun d _ S => S[0]? = some (.rng a c) ∧ A d, fun _ => False, fun _ => False, fun x S => S[0]? = some (.rng a c) ∧ B x⟩) :
    FnOk P w K mg base (L2.CX P w) (k + 1) f fd ps (spOfR mg (ps.length - 1) sp) := by
  refine F.okX S (fun vs H Q E h => by rw [spOfR_len h]; omega) (fun cdv A outer s H vs Q E hr h => ?_)
  obtain ⟨a, c, us, ds, D0, A', B', rfl, hac, rg, hl, d1, d2, hd, r, hsp, hA, hB⟩ := h
  have at_ : At (cxOf (L2.CX P w) P w K mg base N x (defScope st) f cdv A outer s H E) ⟨mg, fun cls d _ H' => E cls d H'⟩ k := ⟨hr, rfl, takes_of rfl rfl rfl rfl, rfl, S.nd, passes_of rfl⟩
  obtain ⟨wb, hp, hw⟩ := hb cdv A outer s H E at_
  obtain ⟨t, pt, st'⟩ := hp.ex
  refine ⟨t, pt, ?_⟩
  have bt : ∀ {H' : Hp} {o' : Ow}, Fr (orng a c 0 fun _ => none) H o' H' → But a c H H' := fun {H' o'} f b u n1 n2 e => (f b u (if_neg (fun z => z.elim n1 n2)) e).1
  have ends : ∀ {S' : Slots} {σ' : St} {H' : Hp} {o' : Ow}, S'[0]? = some (.rng a c) → Env D0 S' σ' (co H') o' → RngAt H' a c ∧ ∀ {v : V} {d : PyData}, Rp (vt D0 o' (co H')) v d → Rp (vw D0 (orng a c 0 fun _ => none) (co H')) v d := fun {S' σ' H' o'} hs E' => by
    obtain ⟨st1, ix1, ns1, k1, k2, k3, k4, k5, k6, k7⟩ := E'.sl 0 _ hs
    refine ⟨rng_of k5 k6 k7, fun {v d} q => q.mono fun b u e => ?_⟩
    unfold vt at e
    unfold vw orng
    split at e
    · cases e
    · rename_i hn
      have n1 : b ≠ a := fun z => hn (by rw [z, k2]; simp [mutO])
      have n2 : b ≠ c := fun z => hn (by rw [z, k3]; simp [mutO])
      have n3 : D0 b = false := by
        cases q : D0 b with
        | false => rfl
        | true => exact absurd (by rw [q, Bool.true_or]) hn
      have n4 : (if b = a ∨ b = c then some (0, true) else (none : Option (Nat × Bool))) = none := if_neg (fun z => z.elim n1 n2)
      show (if (D0 b || (if b = a ∨ b = c then some (0, true) else (none : Option (Nat × Bool))).isSome) = true then none else co H' b) = some u
      rw [n3, n4]
      exact e
  exact st' D0 _ _ H _ _ _ (env_startR hac rg d1 d2 hd r hN) (hw ds A' B' a c hl hsp)
    ⟨fun S' σ' H' o' h E' f => hA _ _ _ h.2 (bt f) (ends h.1 E').1 .non, fun _ _ _ _ h => h.elim, fun _ _ _ _ h => h.elim,
      fun d c' S' v σ' H' o' h E' f V => hA _ _ _ h.2 (bt f) (ends h.1 E').1 ((ends h.1 E').2 V.1), fun x S' σ' cls dd H' o' h E' f ok => hB x cls dd H' h.2 (bt f) (ends h.1 E').1 ok⟩
/-- law's: a list of at most 63 ints is handed in, True comes out -/
def spLaw (K : PySem.W.Frag) : Sp := fun vs H Q _ => ∃ (a : Addr) (ns : List Int), vs = [.ref a] ∧ SqL K H a (ns.map V.int) ∧ ns.length ≤ 63 ∧ ∀ H', Q (.bl true) H'
/-- THE RULE for law: h = _law_mix(script, seed), then the rest -/
theorem law_ok {st : Stmt} {f : Addr} {fd : FuncData} {N : List Str} {k i : Nat} {seed : Int} (F : Fun K "law" "law" st f fd) (S : FnScope N ["_law_script"] (defScope st)) (hi : i < N.length)
    (hb : ∀ (cdv : Value) (A : Around) (outer : List PySem.Env) (s : Shared) (H : Hp) (E : XK), At (cxOf (L2.CX P w) P w K mg base N "law" (defScope st) f cdv A outer s H E) ⟨mg, fun cls d _ H' => E cls d H'⟩ k →
      ∃ s1 rest WX wb, defBody st = s1 :: rest ∧ PS (cxOf (L2.CX P w) P w K mg base N "law" (defScope st) f cdv A outer s H E) s1 (tAsg (tCallS (spMix K) WX (tCons (tVar 0) (tCons (tC (.int seed)) tNil))) (gName i)) ∧
        SSs (cxOf (L2.CX P w) P w K mg base N "law" (defScope st) f cdv A outer s H E) ⟨mg, fun cls d _ H' => E cls d H'⟩ rest wb ∧
        ∀ a c, wb ((List.replicate N.length Slot.un).set i (.rng a c)) ⟨fun _ => False, fun d _ _ => d = .bool true, fun _ => False, fun _ => False, fun _ _ => False⟩) :
    FnOk P w K mg base (L2.CX P w) (k + 1) f fd ["_law_script"] (spLaw K) := by
  refine F.okX S (fun vs H Q E h => ?_) (fun cdv A outer s H vs Q E hr h => ?_)
  · obtain ⟨a, ns, rfl, _⟩ := h
    rfl
  · obtain ⟨a, ns, rfl, hS, hlen, q⟩ := h
    have at_ : At (cxOf (L2.CX P w) P w K mg base N "law" (defScope st) f cdv A outer s H E) ⟨mg, fun cls d _ H' => E cls d H'⟩ k := ⟨hr, rfl, takes_of rfl rfl rfl rfl, rfl, S.nd, passes_of rfl⟩
    obtain ⟨s1, rest, WX, wb, eb, p1, p2, hw⟩ := hb cdv A outer s H E at_
    obtain ⟨t, pt, st'⟩ := p2.ex
    refine ⟨_, by rw [eb]; exact pss_cons p1 pt, ?_⟩
    have hN : 0 < N.length := by omega
    have h0 : (L2.start N [.ref a])[0]? = some (some (.ref a)) := rfl
    refine ⟨.ref a, h0, a, ns, seed, rfl, hS, hlen, fun p c H' np nc hpc le rg => ?_⟩
    obtain ⟨st1, ix1, ns1, r1, r2, r3⟩ := rg.co
    have E0 : Env (fun _ => false) ((List.replicate N.length Slot.un).set i (.rng p c)) ((L2.start N [.ref a]).set i (some (.ref p))) (co H') (orng p c i fun _ => none) := by
      refine ⟨?_, fun b q e => ?_, fun b e => (by cases e), fun j s e => ?_⟩
      · unfold L2.start
        simp
        omega
      · unfold orng at e
        split at e
        · rename_i hb
          rcases hb with hb | hb
          · subst hb; exact ⟨rfl, _, r1, rfl⟩
          · subst hb; exact ⟨rfl, _, r2, rfl⟩
        · cases e
      · by_cases z : i = j
        · subst z
          rw [List.getElem?_set_self (by simpa using hi)] at e
          cases e
          refine ⟨st1, ix1, ns1, ?_, if_pos (.inl rfl), if_pos (.inr rfl), hpc, r1, r2, r3⟩
          rw [List.getElem?_set_self]
          unfold L2.start
          simp
          omega
        · rw [List.getElem?_set_ne z, List.getElem?_replicate] at e
          split at e
          · cases e
            trivial
          · cases e
    exact st' _ _ _ H' _ _ _ E0 (hw p c) ⟨fun _ _ _ _ h => h.elim, fun _ _ _ _ h => h.elim, fun _ _ _ _ h => h.elim,
      fun d c' S' v σ' H2 o' h E' f V => by
        have h' : d = .bool true := h
        subst h'
        cases V.1
        exact q H2, fun _ _ _ _ _ _ _ h => h.elim⟩
end
end
end Pu

namespace Pu
open PySem L2

/-! ### statements by their weakest reading -/
def tSW (W : WM) (w : WS) : TS := fun D σ H => ∃ (D0 : Addr → Bool) (S : Slots) (o : Ow) (P : En), Env D0 S σ (co H) o ∧ w S P ∧ Goes W D0 o H P D
theorem tSW_snd {W : WM} {w : WS} : SndS W (tSW W w) w := fun D0 S σ H o P D E hw g => ⟨D0, S, o, P, E, hw, g⟩
theorem SSs.pss {X : Cx} {W : WM} {b : List Stmt} {w : WS} (h : SSs X W b w) : PSs X b (tSW W w) := by
  obtain ⟨t, p, s⟩ := h.ex
  exact ⟨fun pins sh σ H D I ⟨D0, S, o, P, E, hw, g⟩ => p.run pins sh σ H D I (s D0 S σ H o P D E hw g)⟩

section
variable {X : Cx} {W : WM} {k : Nat} {pos : Pos}

/-! ### try -/
/-- what the clause catches, by the exceptions' names -/
structure Catch (K : PySem.W.Frag) (mg : Str → Option Value) (C : Addr) (M : Str → Option Bool) : Prop where
  ok : ∀ x b, M x = some b → ∀ A, mg x = some (.ref A) → PySem.W.exmOne K (.ref A) (.ref C) = some b
def wTry (M : Str → Option Bool) (wb ws : WS) : WS := fun S P => wb S { P with ex := fun x S1 => match M x.1 with
  | some true => ws S1 { P with ex := noX }
  | some false => P.ex x S1
  | none => False }
theorem ss_try {x : Str} {C : Addr} {M : Str → Option Bool} {body suite : List Stmt} {b₀ : Stmt} {np pos' : Pos} {wb ws : WS} (a : At X W k) (hm : X.mg x = some (.ref C)) (hM : Catch X.K X.mg C M)
    (hb : ∀ (w' : WX) (pn : List (Addr × Obj)) (xe : Value → Shared → Prop), At (X.tr pn xe) ⟨X.mg, w'⟩ k → SSs (X.tr pn xe) ⟨X.mg, w'⟩ body wb)
    (hsu : ∀ (e : Addr) (oe : Obj) (pn : List (Addr × Obj)), SSs (X.suite e ((e, oe) :: pn)) (WN X.mg) (b₀ :: suite) ws)
    (hs : X.stack = X.env :: X.outer := by rfl) (hf : X.env.frame = some X.env.locals := by rfl) (hg : Gl X x := by rfl) (hdb : (x == ("__debug__" : Str)) = false := by decide) :
    SS X W (.Try body [.ExceptHandler (some (.Name x np)) none (b₀ :: suite) pos'] [] [] pos) (wTry M wb ws) := by
  refine ⟨_, ps_try_only hs hf ⟨hg, hdb, .inl hm⟩ a.tx (fun w' pn xe tk po => (hb w' pn xe ⟨a.room, a.calm, tk, rfl, a.nd, po⟩).pss) (fun e oe cls d pn _ _ => (hsu e oe pn).pss), ?_⟩
  intro D0 S σ H o P D E hw g
  refine tSW_snd D0 S σ H o _ D E hw ⟨g.nx, g.bk, g.ct, g.rt, ?_⟩
  intro y S' σ' cls dd H' o' h E' f ok
  obtain ⟨⟨A, hA, rfl⟩, hx⟩ := ok
  cases hM' : M y.1 with
  | none =>
    have h' : (match M y.1 with | some true => ws S' { P with ex := noX } | some false => P.ex y S' | none => False) := h
    rw [hM'] at h'
    exact h'.elim
  | some b =>
    have h' : (match M y.1 with | some true => ws S' { P with ex := noX } | some false => P.ex y S' | none => False) := h
    rw [hM'] at h'
    refine ⟨b, hM.ok _ _ hM' A hA, fun e a' ha' => ?_, fun e => ?_⟩
    · subst e
      have g' := g.on f
      exact tSW_snd D0 S' σ' H' o' _ D E' h' ⟨g'.nx, g'.bk, g'.ct, g'.rt, fun _ _ _ _ _ _ _ z => z.elim⟩
    · subst e
      exact g.ex y S' σ' _ dd H' o' h' E' f ⟨⟨A, by rw [a.mq]; exact hA, rfl⟩, hx⟩
/-- scalars -/
def sV : PyData → Option V
  | .none => some .non
  | .bool b => some (.bl b)
  | .int i => some (.int i)
  | .str s => some (.str s)
  | _ => none
def dV : V → Option PyData
  | .non => some .none
  | .bl b => some (.bool b)
  | .int i => some (.int i)
  | .str s => some (.str s)
  | _ => none
theorem rp_sV {G : Hp} {v : V} {d : PyData} {u : V} (r : Rp G v d) (h : sV d = some u) : v = u := by
  cases r <;> simp [sV] at h <;> exact h
theorem rp_dV {G : Hp} {v : V} {d : PyData} (h : dV v = some d) : Rp G v d := by
  cases v <;> simp [dV] at h <;> subst h <;> constructor
/-- try: .. except x as n: return n.f -/
def wTryF (x : Str) (M : Str → Option Bool) (i : Nat) (f : Str) (wb : WS) : WS := fun S P => wb S { P with ex := fun y S1 => match M y.1 with
  | some true => y.1 = x ∧ i < S1.length ∧ ∃ v d, y.2.lookup f = some v ∧ dV v = some d ∧ P.rt d True (S1.set i .un)
  | some false => P.ex y S1
  | none => False }
theorem ss_tryF {x n f : Str} {C : Addr} {M : Str → Option Bool} {body : List Stmt} {np p1 p2 p3 pos' : Pos} {wb : WS} (i : Nat) (a : At X W k) (hm : X.mg x = some (.ref C)) (hM : Catch X.K X.mg C M) (T : XfC X.K C) (hno : PySem.W.findIn X.K (.ref C) f = some none)
    (hb : ∀ (w' : WX) (pn : List (Addr × Obj)) (xe : Value → Shared → Prop), At (X.tr pn xe) ⟨X.mg, w'⟩ k → SSs (X.tr pn xe) ⟨X.mg, w'⟩ body wb)
    (hi : X.N[i]? = some n := by rfl) (hln : X.env.kindOf n = some .local := by rfl) (hv : Vis X.env.scope n := by first | exact Or.inl rfl | exact Or.inr (Or.inl rfl) | exact Or.inr (Or.inr rfl)) (hd : (n == ("__debug__" : Str)) = false := by decide) (hcd : (n == ("__classdict__" : Str)) = false := by decide)
    (hab : attributeBase (.Name n p1) f X.env (eval (.Name n p1) X.env) = eval (.Name n p1) X.env := by rfl)
    (hs : X.stack = X.env :: X.outer := by rfl) (hf : X.env.frame = some X.env.locals := by rfl) (hg : Gl X x := by rfl) (hdb : (x == ("__debug__" : Str)) = false := by decide) :
    SS X W (.Try body [.ExceptHandler (some (.Name x np)) (some n) [.Return (some (.Attribute (.Name n p1) f p2)) p3] pos'] [] [] pos) (wTryF x M i f wb) := by
  refine ⟨_, ps_try_as (i := i) (ts := fun e cls d => tRet (tXf e cls d C f (tVar i))) hs hf a.nd hi hln ⟨hg, hdb, .inl hm⟩ a.tx (fun w' pn xe tk po => (hb w' pn xe ⟨a.room, a.calm, tk, rfl, a.nd, po⟩).pss)
    (fun e oe cls d pn hz hvs => pss_one (ps_ret (pe_xf T hno hz hvs (pe_var (X := X.suite e ((e, oe) :: pn)) hi hv hd hcd) hab))), ?_⟩
  intro D0 S σ H o P D E hw g
  refine tSW_snd D0 S σ H o _ D E hw ⟨g.nx, g.bk, g.ct, g.rt, ?_⟩
  intro y S' σ' cls dd H' o' h E' f' ok
  obtain ⟨⟨A, hA, rfl⟩, hx⟩ := ok
  have h' : (match M y.1 with | some true => y.1 = x ∧ i < S'.length ∧ ∃ v d, y.2.lookup f = some v ∧ dV v = some d ∧ P.rt d True (S'.set i .un) | some false => P.ex y S' | none => False) := h
  cases hM' : M y.1 with
  | none =>
    rw [hM'] at h'
    exact h'.elim
  | some b =>
    rw [hM'] at h'
    refine ⟨b, hM.ok _ _ hM' A hA, fun e a' ha' => ?_, fun e => ?_⟩
    · subst e
      obtain ⟨ey, hlt, v, d, hl, hd', h'⟩ := h'
      have hA' : X.mg y.1 = some (.ref A) := hA
      rw [ey, hm] at hA'
      cases hA'
      have hi' : i < σ'.length := by rw [E'.len]; exact hlt
      refine ⟨.ref a', by rw [List.getElem?_set_self hi'], rfl, rfl, ?_⟩
      rcases hx with ⟨hx, _⟩ | ⟨dd', ed, hx⟩
      · rw [hx] at hl; cases hl
      · refine ⟨dd', y.2, v, ed, hx, hl, ?_⟩
        exact g.rt d True _ v _ H' o' h' (E'.un i) f' (Val.of (rp_dV hd'))
    · subst e
      exact g.ex y S' σ' _ dd H' o' h' E' f' ⟨⟨A, by rw [a.mq]; exact hA, rfl⟩, hx⟩
end
end Pu

namespace Pu
open PySem L2

/-! ### raise X(e, ..), X's own __init__ storing each argument in a field -/
def spInit (C : Addr) (fs : List Str) : Sp := fun vs H Q _ => ∃ (a : Addr) (us : List V), vs = .ref a :: us ∧ us.length = fs.length ∧ H a = some (exo a C none) ∧
  ∀ dx H', H dx = none → dx ≠ a → H' a = some (exo a C (some dx)) → H' dx = some (exd dx (fs.zip us).reverse) → (∀ b, b ≠ a → b ≠ dx → H' b = H b) → Q .non H'
structure RaiseF (P : Program) (w : World) (K : PySem.W.Frag) (mg : Str → Option Value) (base : Heap) (j : Nat) (x : Str) (fs : List Str) : Prop where
  ex : ∃ (C fI : Addr) (fd : FuncData), mg x = some (.ref C) ∧ OexC K C ∧ PySem.W.findIn K (.ref C) "__init__" = some (some (.ref fI)) ∧ PySem.W.typeIn K (.ref fI) = some (.type "function") ∧
    FnOk P w K mg base (L2.CX P w) j fI fd ("self" :: fs) (spInit C fs) ∧ Binds K fd ("self" :: fs) []
def sVs : List PyData → Option (List V)
  | [] => some []
  | d :: r => match sV d, sVs r with
    | some v, some vs => some (v :: vs)
    | _, _ => none
theorem rp_sVs {G : Hp} : ∀ {vs : List V} {ds : List PyData} {us : List V}, RpAll G vs ds → sVs ds = some us → vs = us
  | _, _, _, .nil, h => by cases h; rfl
  | _, _, us, .cons (d := d) (ds := ds) a b, h => by
    unfold sVs at h
    split at h
    · rename_i v vs h1 h2
      cases h
      rw [rp_sV a h1, rp_sVs b h2]
    · cases h
def wRaiseF (x : Str) (fs : List Str) (wa : WLs) : WS := fun S P => wa S (fun ds _ S1 => ∃ us, sVs ds = some us ∧ P.ex (x, (fs.zip us).reverse) S1) P.ex
section
variable {X : Cx} {W : WM} {k : Nat} {pos : Pos}
theorem passes_no {X : Cx} : Passes (L2.CX X.prog X.w) X (fun _ _ _ => False) := fun pins σ H s e s' I c => passAt (W := fun _ _ _ _ => False) takes0 σ pins H s e s' I c
theorem ss_raiseF {j : Nat} {x : Str} {fs : List Str} {e : Expr} {es : List Expr} {p cp : Pos} {wa : WLs} (a : At X W k) (R : RaiseF X.prog X.w X.K X.mg X.base j x fs) (hj : j + 1 ≤ k) (ha : SA X W (e :: es) wa) (hn : (e :: es).length = fs.length := by rfl) (hl : fs.length ≤ 20 := by decide) (hg : Gl X x := by rfl) (hdb : (x == ("__debug__" : Str)) = false := by decide)
    (he : starEach (e :: es) X.env = (false, eval e X.env) :: starEach es X.env := by rfl) (hpl : (backTo cp (starEach es X.env)).any (·.1) = false := by rfl) : SS X W (.Raise (some (.Call (.Name x p) (e :: es) [] cp)) none pos) (wRaiseF x fs wa) := by
  obtain ⟨ta, pa, sa⟩ := ha.ex
  obtain ⟨C, fI, fd, hm, T, iC, tI, F, hb⟩ := R.ex
  refine ⟨_, ps_raise a.calm a.tx (pmk_oex T iC tI F (a.room.mono hj) hb .nil passes_no hg hm pa hdb he hpl), ?_⟩
  intro D0 S σ H o P D E hw g
  refine sa D0 S σ H o _ P.ex _ E hw (fun ds c S1 vs H1 hlen h1 E1 x1 V1 => ?_) g.xw
  obtain ⟨us, hu, h1⟩ := h1
  have ev := rp_sVs V1.1 hu
  subst ev
  have hlv : vs.length = fs.length := by rw [V1.1.length, hlen]; exact hn
  refine ⟨by omega, fun b hb => ⟨b, vs ++ [], rfl, by rw [List.append_nil]; exact hlv, upd_same, fun dx H' n1 n2 h2 h3 h4 => ⟨rfl, dx, _, h2, h3, ?_, ?_⟩⟩⟩
  · rw [upd_ne n2] at n1
    exact n1
  · rw [upd_ne n2] at n1
    have le : Le H1 (upd (del H' b) dx (.xd (fs.zip (vs ++ [])).reverse)) := fun q u e => by
      have q1 : q ≠ b := fun z => by rw [z, hb] at e; cases e
      have q2 : q ≠ dx := fun z => by rw [z, n1] at e; cases e
      rw [upd_ne q2, del_ne q1, h4 q q1 q2, upd_ne q1]
      exact e
    rw [List.append_nil] at *
    exact g.ex _ S1 σ _ _ _ o h1 (E1.xe le) (x1.trans (XE.of le)).fr ⟨⟨C, by rw [a.mq]; exact hm, rfl⟩, .inr ⟨dx, rfl, upd_same⟩⟩

/-! ### sum -/
def rSumT (K : PySem.W.Frag) : List V → Hp → VK → Prop := fun vs H Q => ∃ (a : Addr) (ns : List Int), vs = [V.ref a] ∧ SqT K H a (ns.map V.int) ∧ Q (.int ns.sum) H
theorem cr_sumT (hc : X.calm = true) : CallR X (.builtin "sum") (rSumT X.K) := by
  intro pins s σ H vs us Q I r h
  obtain ⟨a, ns, rfl, hs, q⟩ := h
  obtain ⟨its, rv, hl, _⟩ := I.tuple hs
  rw [Vals.ref1 r]
  have hi := rv.ints
  obtain ⟨xs, e⟩ := hi.allInts.items
  have hn : numsOf (intItems xs).toList = ns := by rw [← e]; exact hi.numsOf
  rw [nums_intItems] at hn
  rw [e] at hl
  refine PySem.W.ktm_sumG (I.ok.hd hc) hl fun h' tk t' hk => ?_
  rw [preSum_eq, List.take_of_length_le (by simp), hn]
  exact ⟨.int _, H, I.kept hk, ⟨_, rfl⟩, q⟩
def gSum : RD := fun ds _ K => match ds with
  | [.list xs] => ∃ ns, ints? xs = some ns ∧ K (.int ns.sum) True
  | [.tuple xs] => ∃ ns, ints? xs = some ns ∧ K (.int ns.sum) True
  | _ => False
theorem f_sum (a : At X W k) : Fn X (.builtin "sum") gSum := by
  refine ⟨_, CallR.or (cr_sum a.calm) (cr_sumT a.calm), ?_⟩
  intro D0 S σ o H vs ds c K Q E V hg k
  unfold gSum at hg
  split at hg
  · obtain ⟨v, rfl, U⟩ := vals1 V
    obtain ⟨a, ws, rfl, e, r, rc⟩ := U.items E
    obtain ⟨ns, hi, hg⟩ := hg
    rw [ints?_of hi] at r
    rw [r.ints] at e
    exact .inl ⟨a, ns, rfl, SqL.at e, k _ _ _ H hg (Le.refl H) (Val.of (.int _))⟩
  · obtain ⟨v, rfl, U⟩ := vals1 V
    obtain ⟨a, ws, rfl, e, r, rc⟩ := U.titems E
    obtain ⟨ns, hi, hg⟩ := hg
    rw [ints?_of hi] at r
    rw [r.ints] at e
    exact .inr ⟨a, ns, rfl, SqT.at e, k _ _ _ H hg (Le.refl H) (Val.of (.int _))⟩
  · exact hg.elim

/-! ### a, b = x, y, some of them new lists that become the frame's own -/
inductive Mi where
  | v (d : PyData)
  | l (ds : List PyData)
def slotM : Mi → Slot
  | .v d => .im d
  | .l ds => .ol ds
def MiOk (D0 : Addr → Bool) (o : Ow) (H : Hp) (j : Nat) (x : V) : Mi → Prop
  | .v d => Rp (vw D0 o (co H)) x d
  | .l ds => ∃ p us, x = .ref p ∧ o p = some (j, false) ∧ H p = some (.lst us) ∧ RpAll (vw D0 o (co H)) us ds
inductive MisOk (D0 : Addr → Bool) (o : Ow) (H : Hp) : List Nat → List V → List Mi → Prop
  | nil : MisOk D0 o H [] [] []
  | cons {j : Nat} {js : List Nat} {x : V} {xs : List V} {m : Mi} {ms : List Mi} : MiOk D0 o H j x m → MisOk D0 o H js xs ms → MisOk D0 o H (j :: js) (x :: xs) (m :: ms)
def FrM (o : Ow) (H : Hp) (o' : Ow) (H' : Hp) : Prop := ∀ a u, mutO (o a) = false → H a = some u → H' a = some u ∧ o' a = o a
theorem FrM.fr {o o' : Ow} {H H' : Hp} (h : FrM o H o' H') : Fr o H o' H' := fun a u n e => by
  obtain ⟨h1, h2⟩ := h a u (by rw [n]; rfl) e
  exact ⟨h1, h2.trans n⟩
theorem FrM.trans {o o1 o2 : Ow} {H H1 H2 : Hp} (a : FrM o H o1 H1) (b : FrM o1 H1 o2 H2) : FrM o H o2 H2 := fun x u m e => by
  obtain ⟨h1, h2⟩ := a x u m e
  obtain ⟨h3, h4⟩ := b x u (by rw [h2]; exact m) h1
  exact ⟨h3, h4.trans h2⟩
theorem XE.frM {o : Ow} {H H' : Hp} (h : XE o H H') : FrM o H o H' := fun a u m e => ⟨h a u m e, rfl⟩
theorem FrM.refl (o : Ow) (H : Hp) : FrM o H o H := fun _ _ _ e => ⟨e, rfl⟩
theorem frM_own {H : Hp} {o : Ow} {p : Addr} {i : Nat} {u : HO} (h : H p = none) : FrM o H (ow1 o p i) (upd H p u) := fun a x n e => by
  have ne := ne_of_none e h
  exact ⟨by rw [upd_ne ne]; exact e, if_neg ne⟩
theorem MiOk.on {D0 : Addr → Bool} {o o' : Ow} {H H' : Hp} {j : Nat} {x : V} {m : Mi} (f : FrM o H o' H') (h : MiOk D0 o H j x m) : MiOk D0 o' H' j x m := by
  cases m with
  | v d => exact h.mono f.fr.vw
  | l ds =>
    obtain ⟨p, us, h1, h2, h3, h4⟩ := h
    obtain ⟨h5, h6⟩ := f p _ (by rw [h2]; rfl) h3
    exact ⟨p, us, h1, h6.trans h2, h5, h4.mono f.fr.vw⟩
/-- the way out by an exception, of a statement -/
def XwF (W : WM) (D0 : Addr → Bool) (o : Ow) (H : Hp) (B : EK) : Prop := ∀ x S' σ' cls dd H' o', B x S' → Env D0 S' σ' (co H') o' → Fr o H o' H' → XOk W.mg H' x cls dd → W.w cls dd σ' H'
theorem XwF.xw {D0 : Addr → Bool} {σ : St} {o : Ow} {H : Hp} {B : EK} (h : XwF W D0 o H B) : Xw W D0 σ o H B := fun x S' cls dd H' hb E q ok => h x S' σ cls dd H' o hb E q.fr ok
theorem XwF.on {D0 : Addr → Bool} {o o1 : Ow} {H H1 : Hp} {B : EK} (h : XwF W D0 o H B) (f : Fr o H o1 H1) : XwF W D0 o1 H1 B := fun x S' σ' cls dd H' o' hb E q ok => h x S' σ' cls dd H' o' hb E (f.trans q) ok
abbrev WMi := Slots → (List Mi → Slots → Prop) → EK → Prop
def SndM (W : WM) (t : TA) (js : List Nat) (w : WMi) : Prop := ∀ (D0 : Addr → Bool) (S : Slots) (σ : St) (H : Hp) (o : Ow) (A : List Mi → Slots → Prop) (B : EK) (Q : List V → Hp → Prop), Env D0 S σ (co H) o → w S A B →
  (∀ ms S' vs H' o', A ms S' → Env D0 S' σ (co H') o' → FrM o H o' H' → MisOk D0 o' H' js vs ms → Q vs H') → XwF W D0 o H B → t σ H Q
structure SM (X : Cx) (W : WM) (es : List Expr) (js : List Nat) (w : WMi) : Prop where
  ex : ∃ t, PA X es t ∧ SndM W t js w
def wMNil : WMi := fun S A _ => A [] S
def wMV (we : WEx) (wr : WMi) : WMi := fun S A B => we S (fun d c S1 => (c ∨ flat d = true) ∧ wr S1 (fun ms S2 => A (.v d :: ms) S2) B) B
def wMO (wo : WLs) (wr : WMi) : WMi := fun S A B => wo S (fun ds c S1 => (c ∨ flats ds = true) ∧ wr S1 (fun ms S2 => A (.l ds :: ms) S2) B) B
theorem sm_nil : SM X W [] [] wMNil := ⟨_, pa_nil, fun D0 S σ H o A B Q E hw k kx => k _ _ _ _ o hw E (FrM.refl _ _) .nil⟩
theorem sm_v (j : Nat) {e : Expr} {es : List Expr} {js : List Nat} {we : WEx} {wr : WMi} (he : SE X W e we) (hr : SM X W es js wr) (hst : starEach (e :: es) X.env = (false, eval e X.env) :: starEach es X.env := by rfl) : SM X W (e :: es) (j :: js) (wMV we wr) := by
  obtain ⟨te, pe, se⟩ := he.ex
  obtain ⟨tr, pr, sr⟩ := hr.ex
  refine ⟨_, pa_cons pe pr hst, ?_⟩
  intro D0 S σ H o A B Q E hw k kx
  refine se D0 S σ H o _ B _ E hw (fun d c S1 v H1 h1 E1 x1 V1 => ?_) kx.xw
  refine sr D0 S1 σ H1 o _ B _ E1 h1.2 (fun ms S2 vs H2 o2 h2 E2 f2 M2 => ?_) (kx.on x1.fr)
  exact k _ S2 _ H2 o2 h2 E2 (x1.frM.trans f2) (.cons (MiOk.on (m := .v d) f2 ((V1.flat E1).2 h1.1)) M2)
theorem sm_o (j : Nat) {e : Expr} {es : List Expr} {js : List Nat} {wo : WLs} {wr : WMi} (he : SO X W e wo) (hr : SM X W es js wr) (hst : starEach (e :: es) X.env = (false, eval e X.env) :: starEach es X.env := by rfl) : SM X W (e :: es) (j :: js) (wMO wo wr) := by
  obtain ⟨te, pe, se⟩ := he.ex
  obtain ⟨tr, pr, sr⟩ := hr.ex
  refine ⟨_, pa_cons pe pr hst, ?_⟩
  intro D0 S σ H o A B Q E hw k kx
  refine se D0 S σ H o _ B _ E hw (fun ds c S1 vs p H1 h1 E1 x1 hp V1 => ?_) kx.xw
  have r := V1.clean E1 h1.1
  have f1 : FrM o H (ow1 o p j) (upd H1 p (.lst vs)) := x1.frM.trans (frM_own hp)
  have E2 : Env D0 S1 σ (co (upd H1 p (.lst vs))) (ow1 o p j) := by
    have nw := E1.new hp
    have le : Le (co H1) (co (upd H1 p (.lst vs))) := (Le.new hp).co
    have oe : ∀ {a : Addr}, a ≠ p → ow1 o p j a = o a := fun {a} n => if_neg n
    have ne : ∀ {a : Addr} {q : Nat × Bool}, o a = some q → a ≠ p := fun {a q} e z => by rw [z, nw.2] at e; cases e
    refine ⟨E1.len, fun a q e => ?_, fun a e => ?_, fun i s e => ?_⟩
    · by_cases z : a = p
      · subst z
        exact ⟨nw.1, _, co_of upd_same, rfl⟩
      · rw [oe z] at e
        obtain ⟨h1, u, h2, h3⟩ := E1.live a q e
        exact ⟨h1, u, le _ _ h2, h3⟩
    · obtain ⟨u, h2, h3⟩ := E1.dead a e
      exact ⟨u, le _ _ h2, h3⟩
    · exact (E1.sl i s e).move (by rw [vw_ow hp]; exact Le.refl _) fun a b u h1 h2 => ⟨by rw [oe (ne h1)]; exact h1, le _ _ h2⟩
  refine sr D0 S1 σ _ _ _ B _ E2 h1.2 (fun ms S2 us H2 o2 h2 E3 f2 M2 => ?_) (kx.on f1.fr)
  exact k _ S2 _ H2 o2 h2 E3 (f1.trans f2) (.cons (MiOk.on (m := .l ds) f2 ⟨p, vs, rfl, if_pos rfl, upd_same, by rw [vw_ow hp]; exact r⟩) M2)
theorem Env.putM {D0 : Addr → Bool} {S : Slots} {σ : St} {H : Hp} {o : Ow} {v : V} {m : Mi} (E : Env D0 S σ (co H) o) (i : Nat) (h : MiOk D0 o H i v m) : Env D0 (S.set i (slotM m)) (σ.set i (some v)) (co H) o := by
  cases m with
  | v d => exact E.put i h
  | l ds =>
    obtain ⟨p, us, h1, h2, h3, h4⟩ := h
    refine ⟨by rw [List.length_set, List.length_set]; exact E.len, E.live, E.dead, fun j s e => ?_⟩
    by_cases z : i = j
    · subst z
      have hi : i < S.length := by
        have q := (List.getElem?_eq_some_iff.mp e).1
        rw [List.length_set] at q
        exact q
      rw [List.getElem?_set_self hi] at e
      cases e
      exact ⟨p, us, by rw [List.getElem?_set_self (by rw [E.len]; exact hi), h1], h2, co_of h3, h4⟩
    · rw [List.getElem?_set_ne z] at e ⊢
      exact E.sl j s e
def puts : List Nat → List Mi → Slots → Slots
  | i :: is, m :: ms, S => puts is ms (S.set i (slotM m))
  | _, _, S => S
def wMix (is : List Nat) (wm : WMi) : WS := fun S P => wm S (fun ms S1 => P.nx (puts is ms S1)) P.ex
theorem Goes.xwF {D0 : Addr → Bool} {o : Ow} {H : Hp} {P : En} {D : Ends} (g : Goes W D0 o H P D) : XwF W D0 o H P.ex := g.ex
theorem ss_mix2 (i j : Nat) {x y : Str} {e1 e2 : Expr} {px py pt : Pos} {kt k2 pt2} {wm : WMi} (a : At X W k) (hm : SM X W [e1, e2] [i, j] wm) (hi : X.N[i]? = some x := by rfl) (hj : X.N[j]? = some y := by rfl) (hij : i ≠ j := by decide)
    (hx : X.env.scope.names.lookup x = some .local := by rfl) (hy : X.env.scope.names.lookup y = some .local := by rfl)
    (hw : swappedStores [.Tuple [.Name x px, .Name y py] kt pt] (.Tuple [e1, e2] k2 pt2) X.env = pure (some [x, y]) := by rfl)
    (hs : swapsWithSole [.Tuple [.Name x px, .Name y py] kt pt] (.Tuple [e1, e2] k2 pt2) pos.line X.env = pure false := by rfl) :
    SS X W (.Assign [.Tuple [.Name x px, .Name y py] kt pt] (.Tuple [e1, e2] k2 pt2) pos) (wMix [i, j] wm) := by
  obtain ⟨ta, pa, sa⟩ := hm.ex
  refine ⟨_, ps_par a.calm a.nd hi hj hij hx hy pa hw hs, ?_⟩
  intro D0 S σ H o P D E hw g
  refine sa D0 S σ H o _ P.ex _ E hw (fun ms S1 vs H1 o1 h1 E1 f1 M => ?_) g.xwF
  cases M with
  | cons m1 M =>
    cases M with
    | cons m2 M =>
      cases M
      exact ⟨_, _, rfl, g.nx _ _ _ o1 h1 ((E1.putM i m1).putM j m2) f1.fr⟩
theorem ss_mix3 (i j l : Nat) {x y z : Str} {e1 e2 e3 : Expr} {px py pz pt : Pos} {kt k2 pt2} {wm : WMi} (a : At X W k) (hm : SM X W [e1, e2, e3] [i, j, l] wm) (hi : X.N[i]? = some x := by rfl) (hj : X.N[j]? = some y := by rfl) (hl : X.N[l]? = some z := by rfl) (hij : i ≠ j := by decide) (hil : i ≠ l := by decide) (hjl : j ≠ l := by decide)
    (hx : X.env.scope.names.lookup x = some .local := by rfl) (hy : X.env.scope.names.lookup y = some .local := by rfl) (hz : X.env.scope.names.lookup z = some .local := by rfl)
    (hw : swappedStores [.Tuple [.Name x px, .Name y py, .Name z pz] kt pt] (.Tuple [e1, e2, e3] k2 pt2) X.env = pure (some [x, y, z]) := by rfl)
    (hs : swapsWithSole [.Tuple [.Name x px, .Name y py, .Name z pz] kt pt] (.Tuple [e1, e2, e3] k2 pt2) pos.line X.env = pure false := by rfl) :
    SS X W (.Assign [.Tuple [.Name x px, .Name y py, .Name z pz] kt pt] (.Tuple [e1, e2, e3] k2 pt2) pos) (wMix [i, j, l] wm) := by
  obtain ⟨ta, pa, sa⟩ := hm.ex
  refine ⟨_, ps_par3 a.calm a.nd hi hj hl hij hil hjl hx hy hz pa hw hs, ?_⟩
  intro D0 S σ H o P D E hw g
  refine sa D0 S σ H o _ P.ex _ E hw (fun ms S1 vs H1 o1 h1 E1 f1 M => ?_) g.xwF
  cases M with
  | cons m1 M =>
    cases M with
    | cons m2 M =>
      cases M with
      | cons m3 M =>
        cases M
        exact ⟨_, _, _, rfl, g.nx _ _ _ o1 h1 (((E1.putM i m1).putM j m2).putM l m3) f1.fr⟩

/-! ### name = [.. for ..] -/
theorem ss_setLcO (i : Nat) {y : Str} {py : Pos} {elt tg iter : Expr} {ifs : List Expr} {scope : Scope} {own : List (Str × Nat)} {spos : Pos} {L : List Nat} {wi : WLs} {wg : WTg} {wt : WTx} {we : WEx} (a : At X W k) (hi : SI X W tg iter wi) (ok : blkC X.N X.env.scope scope own = true)
    (hg : ∀ (s : Shared) (H : Hp) (C : Addr) (cl : List (Str × Addr)) (fp : List Addr), SG (X.blk s H scope (compEnvC scope cl C X.env) fp) tg L wg)
    (ht : ∀ (s : Shared) (H : Hp) (C : Addr) (cl : List (Str × Addr)) (fp : List Addr), At (X.blk s H scope (compEnvC scope cl C X.env) fp) (WN X.mg) k → STs (X.blk s H scope (compEnvC scope cl C X.env) fp) (WN X.mg) ifs wt)
    (he : ∀ (s : Shared) (H : Hp) (C : Addr) (cl : List (Str × Addr)) (fp : List Addr), At (X.blk s H scope (compEnvC scope cl C X.env) fp) (WN X.mg) k → SE (X.blk s H scope (compEnvC scope cl C X.env) fp) (WN X.mg) elt we)
    (hL : ∀ j ∈ L, j ∈ own.map (·.2)) (hy : X.N[i]? = some y := by rfl) (hyl : X.env.scope.names.lookup y = some .local := by rfl) (hk : X.env.scope.kind = .function := by rfl) (hln : (py.line == pos.line) = true := by rfl) (ha : (scope.names.any fun (n, k) => n == y && (k == .local || k == .cell)) = false := by decide)
    (hs : ∀ x, foldedSetIterable iter X.env x = pure x := by intro _; rfl) : SS X W (.Assign [.Name y py] (.ListComp elt [⟨tg, iter, ifs, 0⟩] scope pos) spos) (wOwn i (wLc wi wg wt we (own.map (·.2)))) := by
  obtain ⟨twi, pwi, swi⟩ := hi.ex
  refine ⟨_, ps_setLc a.calm a.nd hy hyl (sw_true hk hyl hln ha) pwi (blkOk_by ok) (fun s H C cl fp => (hg s H C cl fp).pg) (fun s H C cl fp => (ht s H C cl fp (a.blk ..)).pt) (fun s H C cl fp => (he s H C cl fp (a.blk ..)).pe) hs, ?_⟩
  intro D0 S σ H o P D E hw g
  refine snd_lc swi hL D0 S σ H o _ P.ex _ E hw (fun ds c S1 vs q H1 h1 E1 x1 hq V1 => ?_) g.xw
  exact g.nx _ _ _ _ h1.2 (E1.own i hq (V1.clean E1 h1.1)) (x1.fr.trans (fr_own (D0 := D0) (S := S1) (σ := σ) hq))
theorem snd_o {t : TE} {wo : WLs} (so : SndO W t wo) : Snd W t (wO wo) := by
  intro D0 S σ H o A B Q E hw k kx
  refine so D0 S σ H o _ B _ E hw (fun ds c S1 vs p H1 h1 E1 x1 hp V1 => ?_) kx
  exact k _ _ S1 _ _ h1 (E1.xe (Le.new hp)) (x1.trans (XE.of (Le.new hp))) (Val.newL E1 hp V1)
theorem ss_setLc (i : Nat) {y : Str} {py : Pos} {elt tg iter : Expr} {ifs : List Expr} {scope : Scope} {own : List (Str × Nat)} {spos : Pos} {L : List Nat} {wi : WLs} {wg : WTg} {wt : WTx} {we : WEx} (a : At X W k) (hi : SI X W tg iter wi) (ok : blkC X.N X.env.scope scope own = true)
    (hg : ∀ (s : Shared) (H : Hp) (C : Addr) (cl : List (Str × Addr)) (fp : List Addr), SG (X.blk s H scope (compEnvC scope cl C X.env) fp) tg L wg)
    (ht : ∀ (s : Shared) (H : Hp) (C : Addr) (cl : List (Str × Addr)) (fp : List Addr), At (X.blk s H scope (compEnvC scope cl C X.env) fp) (WN X.mg) k → STs (X.blk s H scope (compEnvC scope cl C X.env) fp) (WN X.mg) ifs wt)
    (he : ∀ (s : Shared) (H : Hp) (C : Addr) (cl : List (Str × Addr)) (fp : List Addr), At (X.blk s H scope (compEnvC scope cl C X.env) fp) (WN X.mg) k → SE (X.blk s H scope (compEnvC scope cl C X.env) fp) (WN X.mg) elt we)
    (hL : ∀ j ∈ L, j ∈ own.map (·.2)) (hy : X.N[i]? = some y := by rfl) (hyl : X.env.scope.names.lookup y = some .local := by rfl) (hk : X.env.scope.kind = .function := by rfl) (hln : (py.line == pos.line) = true := by rfl) (ha : (scope.names.any fun (n, k) => n == y && (k == .local || k == .cell)) = false := by decide)
    (hs : ∀ x, foldedSetIterable iter X.env x = pure x := by intro _; rfl) : SS X W (.Assign [.Name y py] (.ListComp elt [⟨tg, iter, ifs, 0⟩] scope pos) spos) (wSet i (wO (wLc wi wg wt we (own.map (·.2))))) := by
  obtain ⟨twi, pwi, swi⟩ := hi.ex
  refine ⟨_, ps_setLc a.calm a.nd hy hyl (sw_true hk hyl hln ha) pwi (blkOk_by ok) (fun s H C cl fp => (hg s H C cl fp).pg) (fun s H C cl fp => (ht s H C cl fp (a.blk ..)).pt) (fun s H C cl fp => (he s H C cl fp (a.blk ..)).pe) hs, ?_⟩
  intro D0 S σ H o P D E hw g
  refine snd_o (snd_lc swi hL) D0 S σ H o _ P.ex _ E hw (fun d c S1 v H1 h1 E1 x1 V1 => ?_) g.xw
  exact g.nx _ _ _ _ h1.2 (E1.put i ((V1.flat E1).2 h1.1)) x1.fr

/-! ### a comparison as a test -/
theorem st_cmp {op : CmpOp} {g : R2D} {a b : Expr} {wa wb : WEx} (ho : Op2 X (compareOp op) g) (ha : SE X W a wa) (hb : SE X W b wb) (hm : behindInMarks op b = false := by first | exact nobehind _ (by decide) (by decide) | rfl) : ST X W (.Compare a [op] [b] pos) (wB (wOp g wa wb)) := by
  obtain ⟨ta, pa, sa⟩ := ha.ex
  obtain ⟨tb, pb, sb⟩ := hb.ex
  obtain ⟨r, hr, h⟩ := ho.ex
  refine ⟨_, pt_cmpR hr pa pb hm, ?_⟩
  intro D0 S σ H o A B Q E hw k kx
  refine snd_op sa sb h D0 S σ H o _ B _ E hw (fun d c S1 v H1 h1 E1 x1 V1 => ?_) kx
  obtain ⟨b, rfl, h'⟩ := bl_rp V1.1 h1
  exact ⟨b, rfl, k b S1 H1 h' E1 x1⟩
end
end Pu

namespace Pu
open PySem L2
theorem bt_int : bootBuiltins "int" = some (.type "int") := by decide +kernel
theorem bt_bool : bootBuiltins "bool" = some (.type "bool") := by decide +kernel
theorem bt_list : bootBuiltins "list" = some (.type "list") := by decide +kernel
theorem bt_tuple : bootBuiltins "tuple" = some (.type "tuple") := by decide +kernel
theorem bt_str : bootBuiltins "str" = some (.type "str") := by decide +kernel
theorem bt_dict : bootBuiltins "dict" = some (.type "dict") := by decide +kernel
theorem bb_len : bootBuiltins "len" = some (.builtin "len") := by decide +kernel
theorem bb_max : bootBuiltins "max" = some (.builtin "max") := by decide +kernel
theorem bb_min : bootBuiltins "min" = some (.builtin "min") := by decide +kernel
theorem bb_sum : bootBuiltins "sum" = some (.builtin "sum") := by decide +kernel
theorem bb_sorted : bootBuiltins "sorted" = some (.builtin "sorted") := by decide +kernel
section
variable {X : Cx} {W : WM} {k : Nat} {pos : Pos}
/-- h = _law_mix(_law_script, seed) -/
theorem ps_mix {j : Nat} {seed : Int} (i : Nat) {h : Str} {p q r u cp : Pos} {z} (a : At X W k) (F : Def X.prog X.w X.K X.mg X.base j "_law_mix" 2 (spMix X.K)) (hj : j ≤ k) (hN : X.N[0]? = some ("_law_script" : Str) := by rfl) (hv : Vis X.env.scope "_law_script" := by first | exact Or.inl rfl | exact Or.inr (Or.inl rfl) | exact Or.inr (Or.inr rfl))
    (hi : X.N[i]? = some h := by rfl) (hx : Loc X.env.scope h := by first | exact Or.inl rfl | exact Or.inr rfl) (hf : X.fn h = true ∨ X.env.scope.names.lookup h = some .local := by first | exact .inl rfl | exact .inr rfl) (hg : Gl X "_law_mix" := by rfl)
    (hst : starEach [.Name "_law_script" r, .Constant (.int seed) z u] X.env = (false, eval (.Name "_law_script" r) X.env) :: starEach [.Constant (.int seed) z u] X.env := by rfl) (hst2 : starEach [.Constant (.int seed) z u] X.env = (false, eval (.Constant (.int seed) z u) X.env) :: starEach [] X.env := by rfl)
    (hpl : (backTo cp (starEach [.Constant (.int seed) z u] X.env)).any (·.1) = false := by rfl) (hs : swapsWith (.Call (.Name "_law_mix" q) [.Name "_law_script" r, .Constant (.int seed) z u] [] cp) (some (.Name h p)) pos.line X.env = pure false := by rfl) :
    PS X (.Assign [.Name h p] (.Call (.Name "_law_mix" q) [.Name "_law_script" r, .Constant (.int seed) z u] [] cp) pos) (tAsg (tCallS (spMix X.K) (WE W.w) (tCons (tVar 0) (tCons (tC (.int seed)) tNil))) (gName i)) := by
  obtain ⟨f, fd, ps, G, hm, hk, hb, hps⟩ := F.ex
  exact ps_set a.nd hi hx (pe_callS G (a.room.mono hj) hg hm hk hb a.tk (pa_cons (pe_var hN hv) (pa_cons pe_int pa_nil hst2) hst) (by decide) hst hpl) hs hf

/-! ### a, b, .. = x, y, .. by a tuple -/
def gNs : List Nat → TGs
  | [] => gNil
  | i :: is => gCons (gName i) (gNs is)
theorem gNs_ok {D0 : Addr → Bool} {o : Ow} {H : Hp} {K : Slots → Prop} {Q : St → Hp → Prop} : ∀ {js : List Nat} {vs : List V} {ms : List Mi} {S : Slots} {σ : St}, MisOk D0 o H js vs ms → Env D0 S σ (co H) o → K (puts js ms S) → (∀ S' σ', K S' → Env D0 S' σ' (co H) o → Q σ' H) → gNs js vs σ H Q
  | _, _, _, S, σ, .nil, E, hK, k => ⟨rfl, k S σ hK E⟩
  | _, _, _, S, σ, .cons (j := j) (x := x) a b, E, hK, k => ⟨_, _, rfl, gNs_ok b (E.putM j a) hK k⟩
theorem ss_mixT {n kt : Nat} {is : List Nat} {tgs es : List Expr} {pt pt2 : Pos} {k2} {wm : WMi} (a : At X W k) (hm : SM X W es is wm) (hp : PGs X tgs (gNs is)) (hlen : is.length = n := by rfl) (hle : n ≤ 20 := by decide) (hn : (assignEach tgs X.env).length = n := by rfl) (hst : (assignEach tgs X.env).findIdx? (·.1) = none := by rfl)
    (hs : swapsWithSole [.Tuple tgs kt pt] (.Tuple es k2 pt2) pos.line X.env = pure false := by rfl) (hw : swappedStores [.Tuple tgs kt pt] (.Tuple es k2 pt2) X.env = pure none := by rfl)
    (h1 : (assignEach [.Tuple tgs kt pt] X.env).map (·.2) = [assign (.Tuple tgs kt pt) X.env] := by rfl) : SS X W (.Assign [.Tuple tgs kt pt] (.Tuple es k2 pt2) pos) (wMix is wm) := by
  obtain ⟨ta, pa, sa⟩ := hm.ex
  refine ⟨_, ps_asg (pe_tup pa) (pg_tup a.calm hp hn hst) hs hw h1, ?_⟩
  intro D0 S σ H o P D E hw g
  refine sa D0 S σ H o _ P.ex _ E hw (fun ms S1 vs H1 o1 h1 E1 f1 M => ?_) g.xwF
  have hl : ∀ {js : List Nat} {vs : List V} {ms : List Mi}, MisOk D0 o1 H1 js vs ms → vs.length = js.length := fun {js vs ms} m => by
    induction m with
    | nil => rfl
    | cons _ _ ih => rw [List.length_cons, List.length_cons, ih]
  have hv : vs.length = n := (hl M).trans hlen
  refine ⟨by rw [hv, sizeLine_eq]; omega, fun p hp => ?_⟩
  have x2 := XE.of (o := o1) (Le.new (u := .tup vs) hp)
  have E2 := E1.xe (Le.new (u := .tup vs) hp)
  have on : ∀ {js : List Nat} {vs' : List V} {ms : List Mi}, MisOk D0 o1 H1 js vs' ms → MisOk D0 o1 (upd H1 p (.tup vs)) js vs' ms := fun {js vs' ms} m => by
    induction m with
    | nil => exact .nil
    | cons a _ ih => exact .cons (a.on x2.frM) ih
  refine ⟨p, vs, rfl, SqT.at upd_same, hv, gNs_ok (on M) E2 h1 fun S' σ' hk E' => ?_⟩
  exact g.nx _ _ _ o1 hk E' (f1.fr.trans x2.fr)
end
theorem loose_int {lv : List (Str × PySem.W.WData)} {mg : Str → Option Value} {g : Heap} {x : Str} {i : Int} (L : PySem.W.LooseAre lv mg g) (h : (x, PySem.W.WData.int i) ∈ lv) : ∃ t, mg x = some (.int i t) := by
  obtain ⟨v, hv, r⟩ := L.val _ h
  cases r
  exact ⟨_, hv⟩
/-- law's walk: what the row asks, from the def's own promise -/
theorem law_walk {l : PySem.W.OpenLaw} {q qv : Program} {loose : List Str} {lv : List (Str × PySem.W.WData)} {YP : World → Heap → Prop} {d : DefRec} {FK : PySem.Params → PySem.W.Frag} {k : Nat} (m : l.most = some 63) (df : d.params.defaults = []) (rm : Room k callerA)
    (ki : ∀ w g, YP w g → (FK w.params).In g)
    (F : ∀ (w : World) (mg : Str → Option Value) (fa : Addr) (g : Heap), (FK w.params).In g → g.Ns mainGlobals mg → PySem.W.LooseAre lv mg g → mg d.name = some (.ref fa) →
      ∃ fd : FuncData, (∀ (s : Shared) (v : Value), BindsTo s fd ⟨[v], []⟩ [("_law_script", v)]) ∧ ∀ base : Heap, (FK w.params).In base → base.Ns mainGlobals mg → FnOk l.prog w (FK w.params) mg base (L2.CX l.prog w) k fa fd ["_law_script"] (spLaw (FK w.params))) :
    PySem.W.WalkO q loose (PySem.W.XL qv lv) YP l.row.toRowW d [] (fun f vs => PySem.call f vs) := by
  refine Att.attach_call m df fun w s0 s1 mg mb fa ob pm cd doc a vs ns G Y ho hd hcd hmg hobj hints hlen hg => ?_
  obtain ⟨fd, hb, hF⟩ := F w mg fa _ (ki w _ Y) G.T.g G.X.2 hmg
  exact law_call (ki w _ Y) G.T.g G.T.b G.T.builtins G.T.nolimit hg hobj hints (by rw [sizeLine_eq]; omega) rm hF hb (fun H _ hS => ⟨a, ns, rfl, hS, hlen, fun _ => rfl⟩) fun H e s' z => by
    obtain ⟨_, _, _, _, _, _, _, _, _, _, _, _, z⟩ := z
    exact z
end Pu

namespace Pu
open PySem L2
section
variable {X : Cx} {W : WM} {k : Nat} {pos : Pos}
/-! ### xs.index(y): the first place of an equal one -/
def wIdx (wl we : WEx) : WEx := fun S A B => wl S (fun d _ S1 => match d with
  | .list xs => we S1 (fun y _ S2 => SeqAt.shaped (.list xs) = true ∧ SeqAt.shaped y = true ∧ ∃ (j : Nat) (z : PyData), xs[j]? = some z ∧ PyData.eqv z y = true ∧ (∀ (m : Nat) (z' : PyData), m < j → xs[m]? = some z' → PyData.eqv z' y = false) ∧ A (.int (j : Nat)) True S2) B
  | _ => False) B
theorem se_idx {o e : Expr} {ap cp : Pos} {wl we : WEx} (a : At X W k) (ho : SE X W o wl) (he : SE X W e we)
    (hb : attributeBase o "index" X.env (eval o X.env) = eval o X.env := by rfl)
    (hfew : ((backTo cp (starEach [e] X.env)).all (fun x => !x.1) && (backToKw cp (keywordEach [] X.env)).all (fun x => x.1.isSome) && decide ([e].length + ([] : List Keyword).length + (if ([] : List Keyword).isEmpty then 0 else 1) < 30)) = true := by rfl)
    (hl : (ap.endLine == cp.line) = true := by rfl) (hst : starEach [e] X.env = (false, eval e X.env) :: starEach [] X.env := by rfl) (hpl : (backTo cp (starEach [] X.env)).any (·.1) = false := by rfl) :
    SE X W (.Call (.Attribute o "index" ap) [e] [] cp) (wIdx wl we) := by
  obtain ⟨to, po, so⟩ := ho.ex
  obtain ⟨te, pe, se⟩ := he.ex
  refine ⟨_, pe_bm PySem.F.plainAttrs_list PySem.F.slot_list_index PySem.F.type_list_index (mt_indexD a.u65) po (pa_cons pe pa_nil hst) hb hfew hl hst hpl, ?_⟩
  intro D0 S σ H o A B Q E hw kk kx
  refine so D0 S σ H o _ B _ E hw (fun d c S1 v H1 h1 E1 x1 V1 => ?_) kx
  split at h1
  · rename_i xs
    obtain ⟨p, vs, rfl, ep, rp, cp⟩ := V1.items E1
    refine ⟨.inl ⟨rfl, vs, SqL.at ep⟩, se D0 S1 σ H1 o _ B _ E1 h1 (fun y cy S2 u H2 h2 E2 x2 V2 => ?_) (kx.on x1)⟩
    obtain ⟨s1, s2, j, z, hz, hj, hno, h2⟩ := h2
    have V1' := V1.mono x2
    exact ⟨p, u, y, xs, j, z, rfl, rfl, V1'.dp s1, V2.dp s2, s1, s2, hz, hj, hno, kk _ _ S2 _ H2 h2 E2 (x1.trans x2) (Val.of (.int _))⟩
  · exact h1.elim
end
end Pu

namespace Pu
open PySem L2
section
variable {X : Cx} {W : WM} {k : Nat} {pos : Pos}

/-! ### parts of slices -/
abbrev WP := Slots → (Option Int → Slots → Prop) → EK → Prop
def SndP (W : WM) (t : TO) (w : WP) : Prop := ∀ (D0 : Addr → Bool) (S : Slots) (σ : St) (H : Hp) (o : Ow) (A : Option Int → Slots → Prop) (B : EK) (Q : Option Int → Hp → Prop), Env D0 S σ (co H) o → w S A B →
  (∀ u S' H', A u S' → Env D0 S' σ (co H') o → XE o H H' → Q u H') → Xw W D0 σ o H B → t σ H Q
structure SP (X : Cx) (W : WM) (e : Option Expr) (w : WP) : Prop where
  ex : ∃ t, PO X e t ∧ SndP W t w
def wPn : WP := fun S A _ => A none S
def wPs (we : WEx) : WP := fun S A B => we S (fun d _ S1 => match d with
  | .int i => A (some i) S1
  | _ => False) B
theorem sp_none : SP X W none wPn := ⟨_, po_none, fun D0 S σ H o A B Q E hw k kx => k _ _ H hw E (XE.refl o H)⟩
theorem sp_some {e : Expr} {we : WEx} (he : SE X W e we) : SP X W (some e) (wPs we) := by
  obtain ⟨te, pe, se⟩ := he.ex
  refine ⟨_, po_some pe, ?_⟩
  intro D0 S σ H o A B Q E hw k kx
  refine se D0 S σ H o _ B _ E hw (fun d c S1 v H1 h1 E1 x1 V1 => ?_) kx
  split at h1
  · cases V1.1
    exact ⟨_, rfl, k _ S1 H1 h1 E1 x1⟩
  · exact h1.elim
/-- the items of xs[lo:hi] -/
def cutL {α : Type} (xs : List α) (lo hi : Option Int) : List α := (xs.drop (HT.sIx xs.length 0 lo)).take (HT.sIx xs.length xs.length hi - HT.sIx xs.length 0 lo)
theorem rp_cut {G : Hp} {vs : List V} {ds : List PyData} (r : RpAll G vs ds) (lo hi : Option Int) : RpAll G (cutV vs lo hi) (cutL ds lo hi) := by
  unfold cutV cutL
  rw [r.length]
  exact (r.drop _).take _
theorem cut_all {α : Type} {xs : List α} {lo hi : Option Int} (h : HT.sIx xs.length 0 lo = 0 ∧ HT.sIx xs.length xs.length hi = xs.length) : cutL xs lo hi = xs := by
  unfold cutL
  rw [h.1, h.2]
  simp
theorem flats_cut {ds : List PyData} (h : flats ds = true) (lo hi : Option Int) : flats (cutL ds lo hi) = true := flats_iff.mpr fun x hx => flats_iff.mp h x (List.mem_of_mem_drop (List.mem_of_mem_take hx))
def wSl (we : WEx) (wl wh : WP) : WLs := fun S A B => we S (fun d c S1 => match d with
  | .list xs => wl S1 (fun lo S2 => wh S2 (fun hi S3 => A (cutL xs lo hi) (c ∨ flats xs = true) S3) B) B
  | _ => False) B
theorem so_sl {e : Expr} {lo hi : Option Expr} {p2 : Pos} {we : WEx} {wl wh : WP} (he : SE X W e we) (hl : SP X W lo wl) (hh : SP X W hi wh) : SO X W (.Subscript e (.Slice lo hi none p2) pos) (wSl we wl wh) := by
  obtain ⟨te, pe, se⟩ := he.ex
  obtain ⟨tl, pl, sl⟩ := hl.ex
  obtain ⟨th, ph, sh⟩ := hh.ex
  refine ⟨_, pe_slice sl_list pe pl ph, ?_⟩
  intro D0 S σ H o A B Q E hw kk kx
  refine se D0 S σ H o _ B _ E hw (fun d c S1 v H1 h1 E1 x1 V1 => ?_) kx
  split at h1
  · rename_i xs
    refine sl D0 S1 σ H1 o _ B _ E1 h1 (fun l S2 H2 h2 E2 x2 => sh D0 S2 σ H2 o _ B _ E2 h2 (fun u S3 H3 h3 E3 x3 => ?_) (kx.on (x1.trans x2))) (kx.on x1)
    have V3 := (V1.mono x2).mono x3
    obtain ⟨a, vs, rfl, ea, ra, ca⟩ := V3.items E3
    exact ⟨a, vs, rfl, SqL.at ea, fun p hp => kk _ _ S3 _ p H3 h3 E3 ((x1.trans x2).trans x3) hp ⟨rp_cut ra l u, fun z => rp_cut (ca z) l u⟩⟩
  · exact h1.elim
def wSlt (we : WEx) (wl wh : WP) : WEx := fun S A B => we S (fun d c S1 => match d with
  | .tuple xs => wl S1 (fun lo S2 => wh S2 (fun hi S3 => A (.tuple (cutL xs lo hi)) (c ∨ flats xs = true) S3) B) B
  | _ => False) B
theorem se_slt {e : Expr} {lo hi : Option Expr} {p2 : Pos} {we : WEx} {wl wh : WP} (he : SE X W e we) (hl : SP X W lo wl) (hh : SP X W hi wh) : SE X W (.Subscript e (.Slice lo hi none p2) pos) (wSlt we wl wh) := by
  obtain ⟨te, pe, se⟩ := he.ex
  obtain ⟨tl, pl, sl⟩ := hl.ex
  obtain ⟨th, ph, sh⟩ := hh.ex
  refine ⟨_, pe_slice sl_tupA pe pl ph, ?_⟩
  intro D0 S σ H o A B Q E hw kk kx
  refine se D0 S σ H o _ B _ E hw (fun d c S1 v H1 h1 E1 x1 V1 => ?_) kx
  split at h1
  · rename_i xs
    refine sl D0 S1 σ H1 o _ B _ E1 h1 (fun l S2 H2 h2 E2 x2 => sh D0 S2 σ H2 o _ B _ E2 h2 (fun u S3 H3 h3 E3 x3 => ?_) (kx.on (x1.trans x2))) (kx.on x1)
    have V3 := (V1.mono x2).mono x3
    have V4 := V3.flat E3
    obtain ⟨a, vs, rfl, ea, ra, ca⟩ := V3.titems E3
    refine ⟨a, vs, rfl, SqT.at ea, fun hw => ?_, fun hw p hp => ?_⟩
    · rw [ra.length] at hw
      rw [cut_all hw] at h3
      exact kk _ _ S3 _ H3 h3 E3 ((x1.trans x2).trans x3) ⟨V4.1, fun z => V4.2 (by rw [flat]; exact z)⟩
    · exact kk _ _ S3 _ _ h3 (E3.xe (Le.new hp)) (((x1.trans x2).trans x3).trans (XE.of (Le.new hp))) (Val.newT E3 hp ⟨rp_cut ra l u, fun z => rp_cut (ca z) l u⟩)
  · exact h1.elim

/-! ### texts -/
def strs? : List PyData → Option (List Str)
  | [] => some []
  | .str s :: r => (strs? r).map (s :: ·)
  | _ :: _ => none
theorem strs?_map : ∀ ns : List Str, strs? (ns.map PyData.str) = some ns
  | [] => rfl
  | n :: r => by
    show (strs? (r.map PyData.str)).map (n :: ·) = _
    rw [strs?_map r]
    rfl
theorem strs?_of : ∀ {ds : List PyData} {ns : List Str}, strs? ds = some ns → ds = ns.map PyData.str
  | [], _, h => by cases h; rfl
  | .str i :: r, ns, h => by
    unfold strs? at h
    cases e : strs? r with
    | none => rw [e] at h; cases h
    | some l =>
      rw [e] at h
      cases h
      rw [strs?_of e]
      rfl
  | .none :: _, _, h => by cases h
  | .bool _ :: _, _, h => by cases h
  | .int _ :: _, _, h => by cases h
  | .list _ :: _, _, h => by cases h
  | .tuple _ :: _, _, h => by cases h
  | .dict _ :: _, _, h => by cases h
theorem RpAll.strs {G : Hp} : ∀ {vs : List V} {ns : List Str}, RpAll G vs (ns.map PyData.str) → vs = ns.map V.str
  | _, [], h => by cases h; rfl
  | _, n :: r, h => by
    cases h with
    | cons a b => cases a; rw [b.strs]; rfl
theorem RpAll.of_strs {G : Hp} : ∀ (ns : List Str), RpAll G (ns.map V.str) (ns.map PyData.str)
  | [] => .nil
  | n :: r => .cons (.str n) (RpAll.of_strs r)
def wSplit (wo we : WEx) : WLs := fun S A B => wo S (fun d _ S1 => match d with
  | .str a => we S1 (fun y _ S2 => match y with
    | .str b => (b.length == 0) = false ∧ a.length + 2 ≤ sizeLine ∧ A ((Txt.split a b).map .str) True S2
    | _ => False) B
  | _ => False) B
theorem so_split {o e : Expr} {ap : Pos} {wo we : WEx} (ho : SE X W o wo) (he : SE X W e we) (hs : starEach [e] X.env = [(false, eval e X.env)] := by rfl) (hbase : attributeBase o "split" X.env (eval o X.env) = eval o X.env := by rfl) (hline : (ap.endLine == pos.line) = true := by rfl) :
    SO X W (.Call (.Attribute o "split" ap) [e] [] pos) (wSplit wo we) := by
  obtain ⟨to, po, so⟩ := ho.ex
  obtain ⟨te, pe, se⟩ := he.ex
  refine ⟨_, pe_split po pe hs hbase hline, ?_⟩
  intro D0 S σ H o A B Q E hw kk kx
  refine so D0 S σ H o _ B _ E hw (fun d c S1 v H1 h1 E1 x1 V1 => ?_) kx
  split at h1
  · cases V1.1
    refine ⟨⟨_, rfl⟩, se D0 S1 σ H1 o _ B _ E1 h1 (fun y cy S2 u H2 h2 E2 x2 V2 => ?_) (kx.on x1)⟩
    split at h2
    · cases V2.1
      exact ⟨_, _, rfl, rfl, h2.1, h2.2.1, fun p hp => kk _ _ S2 _ p H2 h2.2.2 E2 (x1.trans x2) hp ⟨RpAll.of_strs _, fun _ => RpAll.of_strs _⟩⟩
    · exact h2.elim
  · exact h1.elim
def wJoin (wo we : WEx) : WEx := fun S A B => wo S (fun d _ S1 => match d with
  | .str a => we S1 (fun y _ S2 => match y with
    | .list ys => ∃ zs, strs? ys = some zs ∧ (zs.map (·.length)).sum + zs.length * a.length ≤ 16777216 ∧ A (.str (Txt.join a zs)) True S2
    | _ => False) B
  | _ => False) B
theorem se_join {o e : Expr} {ap : Pos} {wo we : WEx} (ho : SE X W o wo) (he : SE X W e we) (hs : starEach [e] X.env = [(false, eval e X.env)] := by rfl) (hbase : attributeBase o "join" X.env (eval o X.env) = eval o X.env := by rfl) (hline : (ap.endLine == pos.line) = true := by rfl) :
    SE X W (.Call (.Attribute o "join" ap) [e] [] pos) (wJoin wo we) := by
  obtain ⟨to, po, so⟩ := ho.ex
  obtain ⟨te, pe, se⟩ := he.ex
  refine ⟨_, pe_join po pe hs hbase hline, ?_⟩
  intro D0 S σ H o A B Q E hw kk kx
  refine so D0 S σ H o _ B _ E hw (fun d c S1 v H1 h1 E1 x1 V1 => ?_) kx
  split at h1
  · cases V1.1
    refine ⟨⟨_, rfl⟩, se D0 S1 σ H1 o _ B _ E1 h1 (fun y cy S2 u H2 h2 E2 x2 V2 => ?_) (kx.on x1)⟩
    split at h2
    · obtain ⟨zs, hz, hb, h2⟩ := h2
      obtain ⟨p, vs, rfl, ep, rp, cp⟩ := V2.items E2
      rw [strs?_of hz] at rp
      rw [rp.strs] at ep
      exact ⟨_, p, zs, rfl, rfl, .inl (SqL.at ep), hb, kk _ _ S2 _ H2 h2 E2 (x1.trans x2) (Val.of (.str _))⟩
    · exact h2.elim
  · exact h1.elim
def wRstrip (wo : WEx) : WEx := fun S A B => wo S (fun d _ S1 => match d with
  | .str a => a.length ≤ sizeLine ∧ A (.str (Txt.rstrip a)) True S1
  | _ => False) B
theorem se_rstrip {o : Expr} {ap : Pos} {wo : WEx} (ho : SE X W o wo) (hbase : attributeBase o "rstrip" X.env (eval o X.env) = eval o X.env := by rfl) (hline : (ap.endLine == pos.line) = true := by rfl) :
    SE X W (.Call (.Attribute o "rstrip" ap) [] [] pos) (wRstrip wo) := by
  obtain ⟨to, po, so⟩ := ho.ex
  refine ⟨_, pe_m0 F.slot_str_rstrip F.type_str_rstrip mt_rstrip po hbase hline, ?_⟩
  intro D0 S σ H o A B Q E hw kk kx
  refine so D0 S σ H o _ B _ E hw (fun d c S1 v H1 h1 E1 x1 V1 => ?_) kx
  split at h1
  · cases V1.1
    exact ⟨⟨_, rfl⟩, _, rfl, rfl, h1.1, kk _ _ S1 _ H1 h1.2 E1 x1 (Val.of (.str _))⟩
  · exact h1.elim
/-! f-strings -/
def wFmt (we : WEx) : WEx := fun S A B => we S (fun d _ S1 => match d with
  | .str y => y.length ≤ sizeLine ∧ A (.str y) True S1
  | .int i => i.natAbs.log2 < 1920 ∧ A (.str (toString i)) True S1
  | _ => False) B
theorem se_fmt {e : Expr} {we : WEx} (he : SE X W e we) : SE X W (.FormattedValue e (-1) none pos) (wFmt we) := by
  obtain ⟨te, pe, se⟩ := he.ex
  refine ⟨_, pe_fmt pe, ?_⟩
  intro D0 S σ H o A B Q E hw kk kx
  refine se D0 S σ H o _ B _ E hw (fun d c S1 v H1 h1 E1 x1 V1 => ?_) kx
  split at h1
  · cases V1.1
    exact .inl ⟨_, rfl, h1.1, kk _ _ S1 _ H1 h1.2 E1 x1 (Val.of (.str _))⟩
  · cases V1.1
    exact .inr ⟨_, rfl, h1.1, kk _ _ S1 _ H1 h1.2 E1 x1 (Val.of (.str _))⟩
  · exact h1.elim
abbrev WJ := Str → Slots → (Str → Slots → Prop) → EK → Prop
structure SJ (X : Cx) (W : WM) (es : List Expr) (w : WJ) : Prop where
  ex : ∃ ts, PJ X es ts ∧ ∀ (acc : Str) (D0 : Addr → Bool) (S : Slots) (σ : St) (H : Hp) (o : Ow) (A : Str → Slots → Prop) (B : EK) (Q : Str → Hp → Prop), Env D0 S σ (co H) o → w acc S A B →
    (∀ u S' H', A u S' → Env D0 S' σ (co H') o → XE o H H' → Q u H') → Xw W D0 σ o H B → tJs ts acc σ H Q
def wJNil : WJ := fun acc S A _ => A acc S
def wJCons (we : WEx) (wr : WJ) : WJ := fun acc S A B => we S (fun d _ S1 => match d with
  | .str y => (acc ++ y).length ≤ sizeLine ∧ wr (acc ++ y) S1 A B
  | _ => False) B
theorem sj_nil : SJ X W [] wJNil := ⟨_, .nil, fun acc D0 S σ H o A B Q E hw k kx => k _ _ H hw E (XE.refl o H)⟩
theorem sj_cons {e : Expr} {es : List Expr} {we : WEx} {wr : WJ} (he : SE X W e we) (hr : SJ X W es wr) : SJ X W (e :: es) (wJCons we wr) := by
  obtain ⟨te, pe, se⟩ := he.ex
  obtain ⟨ts, pr, sr⟩ := hr.ex
  refine ⟨_, .cons pe pr, ?_⟩
  intro acc D0 S σ H o A B Q E hw kk kx
  refine se D0 S σ H o _ B _ E hw (fun d c S1 v H1 h1 E1 x1 V1 => ?_) kx
  split at h1
  · cases V1.1
    exact ⟨_, rfl, h1.1, sr _ D0 S1 σ H1 o A B Q E1 h1.2 (fun u S2 H2 h2 E2 x2 => kk u S2 H2 h2 E2 (x1.trans x2)) (kx.on x1)⟩
  · exact h1.elim
def wJs (wj : WJ) : WEx := fun S A B => wj Str.empty S (fun u S1 => A (.str u) True S1) B
theorem se_js {v1 v2 : Expr} {rest : List Expr} {wj : WJ} (h : SJ X W (v1 :: v2 :: rest) wj) : SE X W (.JoinedStr (v1 :: v2 :: rest) pos) (wJs wj) := by
  obtain ⟨ts, pj, sj⟩ := h.ex
  refine ⟨_, pe_joined pj, ?_⟩
  intro D0 S σ H o A B Q E hw kk kx
  exact sj _ D0 S σ H o _ B _ E hw (fun u S1 H1 h1 E1 x1 => kk _ _ S1 _ H1 h1 E1 x1 (Val.of (.str _))) kx
/-! str(n), int(text) -/
def gStr : RD := fun ds _ K => match ds with
  | [.int i] => i.natAbs.log2 < 1920 ∧ K (.str (toString i)) True
  | _ => False
theorem f_str : Fn X (.type "str") gStr := by
  refine ⟨_, call_str_int, ?_⟩
  intro D0 S σ o H vs ds c K Q E V hg k
  unfold gStr at hg
  split at hg
  · obtain ⟨v, rfl, U⟩ := vals1 V
    cases U.1
    exact ⟨_, rfl, hg.1, k _ _ _ H hg.2 (Le.refl H) (Val.of (.str _))⟩
  · exact hg.elim
def gIntS : RD := fun ds _ K => match ds with
  | [.str a] => ∃ n, PySem.intText? a = some n ∧ a.length ≤ 640 ∧ K (.int n) True
  | _ => False
theorem f_intS : Fn X (.type "int") gIntS := by
  refine ⟨_, call_int_str, ?_⟩
  intro D0 S σ o H vs ds c K Q E V hg k
  unfold gIntS at hg
  split at hg
  · obtain ⟨v, rfl, U⟩ := vals1 V
    cases U.1
    obtain ⟨n, h1, h2, h3⟩ := hg
    exact ⟨_, n, rfl, h1, h2, k _ _ _ H h3 (Le.refl H) (Val.of (.int _))⟩
  · exact hg.elim
/-! a text walked sign by sign -/
def signsD (x : Str) : List PyData := x.cps.toList.map fun c => PyData.str ⟨#[c]⟩
theorem wk_str {x : Str} : Wk (Its x) (signsD x) True (fun _ _ _ => True) where
  go := fun D0 o H i _ hi => by
    have : (signsD x).length = x.cps.size := by unfold signsD; rw [List.length_map, Array.length_toList]
    show i < x.cps.size
    omega
  stop := fun D0 o H _ => by
    have : (signsD x).length = x.cps.size := by unfold signsD; rw [List.length_map, Array.length_toList]
    show x.cps.size ≤ (signsD x).length
    omega
  yld := fun D0 S σ o H i y H' d _ E hd hy => by
    obtain ⟨rfl, c, hc, rfl⟩ := hy
    unfold signsD at hd
    rw [List.getElem?_map, Array.getElem?_toList, hc] at hd
    cases hd
    exact ⟨Le.refl _, Val.of (.str _)⟩
  xe := fun _ _ _ _ _ _ _ _ => trivial
  fr := fun _ _ _ _ _ _ _ _ => trivial
def wIS (wl : WEx) : WLs := fun S A B => wl S (fun d _ S1 => match d with
  | .str x => A (signsD x) True S1
  | _ => False) B
theorem si_s {tg e : Expr} {we : WEx} (he : SE X W e we) : SI X W tg e (wIS we) := by
  obtain ⟨te, pe, se⟩ := he.ex
  refine ⟨_, pi_str pe, ?_⟩
  intro D0 S σ H o A B R E hw k kx
  refine se D0 S σ H o _ B _ E hw (fun d c S1 v H1 h1 E1 x1 V1 => ?_) kx
  split at h1
  · cases V1.1
    exact ⟨_, rfl, k _ _ S1 _ H1 _ h1 E1 x1 wk_str trivial⟩
  · exact h1.elim
def gSignNotIn : R2D := fun x _ y _ K => match x, y with
  | .str ⟨⟨[c]⟩⟩, .str z => K (.bool (!decide (c ∈ z.cps.toList))) True
  | _, _ => False
theorem o_signNotIn : Op2 X (compareOp .NotIn) gSignNotIn :=
  ⟨_, op_notIn_sign, fun D0 S σ o H x y dx dy cx cy K Q E Vx Vy hg k => by
    unfold gSignNotIn at hg
    split at hg
    · cases Vx.1
      cases Vy.1
      exact ⟨_, _, rfl, rfl, k _ _ _ H hg (Le.refl H) (Val.of (.bl _))⟩
    · exact hg.elim⟩
end
end Pu

namespace Pu
open PySem L2
section
variable {X : Cx} {W : WM} {k : Nat} {pos : Pos}

/-! ### a text so many times -/
def gMulT : R2D := fun x _ y _ K => match x, y with
  | .str z, .int n => 2 ≤ n ∧ n ≤ 1000 ∧ 1 ≤ z.length ∧ z.length ≤ 1000 ∧ K (.str (Txt.mul z n)) True
  | _, _ => False
theorem op_mul_str : OpR X (binaryOp .Mult) (fun x y H Q => ∃ (z : Str) (n : Int), x = .str z ∧ y = .int n ∧ 2 ≤ n ∧ n ≤ 1000 ∧ 1 ≤ z.length ∧ z.length ≤ 1000 ∧ Q (.str (Txt.mul z n)) H) := by
  intro pins s σ H x y v u Q I rx ry h
  obtain ⟨z, n, rfl, rfl, h2, h1000, hz1, hz, q⟩ := h
  obtain ⟨t, rfl⟩ := rx
  obtain ⟨t', rfl⟩ := ry
  have e63 : (2 : Int) ^ 63 = 9223372036854775808 := by decide
  refine SB.mul ⟨?_, fun _ _ => ?_, fun _ _ => ?_⟩ fun t' k => ⟨.str (Txt.mul z n), H, I.tok k, ⟨_, rfl⟩, q⟩
  · rw [decide_eq_false (by rw [e63]; omega), decide_eq_false (by rw [e63]; omega)]; rfl
  · rw [e63]
    have : (9223372036854775808 - 1) / 1000 ≤ (9223372036854775808 - 1 : Int) / n := by
      refine Int.le_ediv_of_mul_le (by omega) ?_
      have : ((9223372036854775808 - 1 : Int) / 1000) * n ≤ ((9223372036854775808 - 1 : Int) / 1000) * 1000 := Int.mul_le_mul_of_nonneg_left h1000 (by decide)
      exact Int.le_trans this (by decide)
    have e : ((9223372036854775808 - 1 : Int) / 1000) = 9223372036854775 := by decide
    rw [e] at this
    omega
  · have hb : z.length * n.toNat ≤ 1000 * 1000 := Nat.mul_le_mul hz (by omega)
    have : ¬ (z.length * n.toNat > sizeLine) := by rw [sizeLine_eq]; omega
    exact decide_eq_false this
theorem o_mulT : Op2 X (binaryOp .Mult) gMulT :=
  ⟨_, op_mul_str, fun D0 S σ o H x y dx dy cx cy K Q E Vx Vy hg k => by
    unfold gMulT at hg
    split at hg
    · cases Vx.1
      cases Vy.1
      exact ⟨_, _, rfl, rfl, hg.1, hg.2.1, hg.2.2.1, hg.2.2.2.1, k _ _ _ H hg.2.2.2.2 (Le.refl H) (Val.of (.str _))⟩
    · exact hg.elim⟩

/-! ### a, b, .. = a list -/
def wGL (n : Nat) (ws : WTgs) : WTg := fun d c S K => match d with
  | .list ds => ds.length = n ∧ ws ds (c ∨ flats ds = true) S K
  | _ => False
theorem sg_l {es : List Expr} {n kk : Nat} {L : List Nat} {ws : WTgs} (hc : X.calm = true) (h : SGs X es L ws)
    (hn : (assignEach es X.env).length = n := by rfl) (hst : (assignEach es X.env).findIdx? (·.1) = none := by rfl) : SG X (.Tuple es kk pos) L (wGL n ws) := by
  obtain ⟨g, pg, sg⟩ := h.ex
  refine ⟨_, pg_lst hc pg hn hst, ?_⟩
  intro D0 S σ H o v d c K Q E V hw k
  unfold wGL at hw
  split at hw
  · obtain ⟨a, vs, rfl, e, r, rc⟩ := V.items E
    exact ⟨a, vs, rfl, SqL.at e, by rw [r.length]; exact hw.1, sg D0 S σ H o vs _ _ K Q E ⟨r, rc⟩ hw.2 k⟩
  · exact hw.elim

/-! ### try: .. except x as n: suite -/
/-- an exception's fields are nobody's -/
theorem Env.xdv {D0 : Addr → Bool} {S : Slots} {σ : St} {H : Hp} {o : Ow} (E : Env D0 S σ (co H) o) {q : Addr} {fs : List (Str × V)} (h : H q = some (.xd fs)) : vw D0 o (co H) q = some (.xd fs) := by
  have e2 : co H q = some (.xd fs) := co_of h
  refine vw_at ?_ ?_ e2
  · cases z : D0 q with
    | false => rfl
    | true =>
      obtain ⟨u, h1, h2⟩ := E.dead q z
      rw [e2] at h1
      cases h1
      cases h2
  · cases z : o q with
    | none => rfl
    | some p =>
      obtain ⟨_, u, h1, h2⟩ := E.live q p z
      rw [e2] at h1
      cases h1
      cases h2
/-- slot i holds an exception -/
theorem Env.putX {D0 : Addr → Bool} {S : Slots} {σ : St} {H : Hp} {o : Ow} (E : Env D0 S σ (co H) o) (i : Nat) (e : Addr) (d : Option Addr) (fs : List (Str × V)) (h : ∀ q, d = some q → H q = some (.xd fs)) :
    Env D0 (S.set i (.ex e d fs)) (σ.set i (some (.ref e))) (co H) o := by
  refine ⟨by rw [List.length_set, List.length_set]; exact E.len, E.live, E.dead, fun j s hs => ?_⟩
  by_cases z : i = j
  · subst z
    have hi : i < S.length := by
      have q := (List.getElem?_eq_some_iff.mp hs).1
      rw [List.length_set] at q
      exact q
    rw [List.getElem?_set_self hi] at hs
    cases hs
    exact ⟨by rw [List.getElem?_set_self (by rw [E.len]; exact hi)], fun q hq => E.xdv (h q hq)⟩
  · rw [List.getElem?_set_ne z] at hs ⊢
    exact E.sl j s hs
def wTryAs (M : Str → Option Bool) (i : Nat) (wb : WS) (ws : Addr → Option Addr → XC → WS) : WS := fun S P => wb S { P with ex := fun y S1 => match M y.1 with
  | some true => ∀ (e : Addr) (d : Option Addr), d.isNone = y.2.isEmpty ∨ d.isSome = true → ws e d y (S1.set i (.ex e d y.2)) { nx := fun S2 => P.nx (S2.set i .un), bk := fun S2 => P.bk (S2.set i .un), ct := fun S2 => P.ct (S2.set i .un), rt := P.rt, ex := noX }
  | some false => P.ex y S1
  | none => False }
theorem ss_tryAs {x n : Str} {C : Addr} {M : Str → Option Bool} {body suite : List Stmt} {b₀ : Stmt} {np pos' : Pos} {wb : WS} {ws : Addr → Option Addr → XC → WS} (i : Nat) (a : At X W k) (hm : X.mg x = some (.ref C)) (hM : Catch X.K X.mg C M)
    (hb : ∀ (w' : WX) (pn : List (Addr × Obj)) (xe : Value → Shared → Prop), At (X.tr pn xe) ⟨X.mg, w'⟩ k → SSs (X.tr pn xe) ⟨X.mg, w'⟩ body wb)
    (hsu : ∀ (e : Addr) (oe : Obj) (d : Option Addr) (pn : List (Addr × Obj)) (y : XC) (A : Addr), Zc (.ref A) d oe → (∃ vs, oe.data = .fields vs) → X.mg y.1 = some (.ref A) → M y.1 = some true → SSs (X.suite e ((e, oe) :: pn)) (WN X.mg) (b₀ :: suite) (ws e d y))
    (hi : X.N[i]? = some n := by rfl) (hln : X.env.kindOf n = some .local := by rfl)
    (hs : X.stack = X.env :: X.outer := by rfl) (hf : X.env.frame = some X.env.locals := by rfl) (hg : Gl X x := by rfl) (hdb : (x == ("__debug__" : Str)) = false := by decide) :
    SS X W (.Try body [.ExceptHandler (some (.Name x np)) (some n) (b₀ :: suite) pos'] [] [] pos) (wTryAs M i wb ws) := by
  refine ⟨_, ps_try_as (i := i) (ts := fun e cls d D σ H => ∃ (y : XC) (A : Addr), cls = .ref A ∧ X.mg y.1 = some (.ref A) ∧ M y.1 = some true ∧ tSW (WN X.mg) (ws e d y) D σ H) hs hf a.nd hi hln ⟨hg, hdb, .inl hm⟩ a.tx
    (fun w' pn xe tk po => (hb w' pn xe ⟨a.room, a.calm, tk, rfl, a.nd, po⟩).pss) (fun e oe cls d pn hz hvs => ?_), ?_⟩
  · refine ⟨fun pins s σ H D I h => ?_⟩
    obtain ⟨y, A, rfl, hA, hy, h⟩ := h
    exact (hsu e oe d pn y A hz hvs hA hy).pss.run pins s σ H D I h
  intro D0 S σ H o P D E hw g
  refine tSW_snd D0 S σ H o _ D E hw ⟨g.nx, g.bk, g.ct, g.rt, ?_⟩
  intro y S' σ' cls dd H' o' h E' f ok
  obtain ⟨⟨A, hA, rfl⟩, hx⟩ := ok
  have h' : (match M y.1 with
    | some true => ∀ (e : Addr) (d : Option Addr), d.isNone = y.2.isEmpty ∨ d.isSome = true → ws e d y (S'.set i (.ex e d y.2)) { nx := fun S2 => P.nx (S2.set i .un), bk := fun S2 => P.bk (S2.set i .un), ct := fun S2 => P.ct (S2.set i .un), rt := P.rt, ex := noX }
    | some false => P.ex y S' | none => False) := h
  cases hM' : M y.1 with
  | none =>
    rw [hM'] at h'
    exact h'.elim
  | some b =>
    rw [hM'] at h'
    refine ⟨b, hM.ok _ _ hM' A hA, fun eb e he => ?_, fun eb => ?_⟩
    · subst eb
      have hd : dd.isNone = y.2.isEmpty ∨ dd.isSome = true := by
        rcases hx with ⟨h1, h2⟩ | ⟨q, h1, h2⟩
        · left; rw [h1, h2]; rfl
        · right; rw [h1]; rfl
      have hq : ∀ q, dd = some q → H' q = some (.xd y.2) := fun q e2 => by
        rcases hx with ⟨h1, h2⟩ | ⟨q', h1, h2⟩
        · rw [h2] at e2; cases e2
        · rw [h1] at e2; cases e2; exact h2
      have E2 := E'.putX i e dd y.2 hq
      have g' := g.on f
      refine ⟨y, A, rfl, hA, hM', tSW_snd D0 _ _ H' o' _ _ E2 (h' e dd hd) ⟨fun S2 σ2 H2 o2 h2 E3 f2 => ?_, fun S2 σ2 H2 o2 h2 E3 f2 => ?_, fun S2 σ2 H2 o2 h2 E3 f2 => ?_, g'.rt, fun _ _ _ _ _ _ _ z => z.elim⟩⟩
      · exact g'.nx _ _ H2 o2 h2 (E3.un i) f2
      · exact g'.bk _ _ H2 o2 h2 (E3.un i) f2
      · exact g'.ct _ _ H2 o2 h2 (E3.un i) f2
    · subst eb
      exact g.ex y S' σ' _ dd H' o' h' E' f ⟨⟨A, by rw [a.mq]; exact hA, rfl⟩, hx⟩
/-- n.f in the suite -/
def wXf (e : Addr) (d : Option Addr) (y : XC) (i : Nat) (x f : Str) : WEx := fun S A _ => y.1 = x ∧ d.isSome = true ∧ ∃ fs v dv, S[i]? = some (.ex e d fs) ∧ fs.lookup f = some v ∧ dV v = some dv ∧ A dv True S
theorem se_xf {e C A : Addr} {oe : Obj} {d : Option Addr} {pn : List (Addr × Obj)} {y : XC} {x n f : Str} {p1 : Pos} (i : Nat) (T : XfC X.K C) (hno : PySem.W.findIn X.K (.ref C) f = some none) (hz : Zc (.ref A) d oe) (hf : ∃ vs, oe.data = .fields vs) (hA : X.mg y.1 = some (.ref A)) (hC : X.mg x = some (.ref C))
    (hi : X.N[i]? = some n := by rfl) (hv : Vis X.env.scope n := by first | exact Or.inl rfl | exact Or.inr (Or.inl rfl) | exact Or.inr (Or.inr rfl)) (hd : (n == ("__debug__" : Str)) = false := by decide) (hcd : (n == ("__classdict__" : Str)) = false := by decide)
    (hab : attributeBase (.Name n p1) f X.env (eval (.Name n p1) X.env) = eval (.Name n p1) X.env := by rfl) :
    SE (X.suite e ((e, oe) :: pn)) (WN X.mg) (.Attribute (.Name n p1) f pos) (wXf e d y i x f) := by
  refine ⟨_, pe_xf T hno hz hf (pe_var (X := X.suite e ((e, oe) :: pn)) hi hv hd hcd) hab, ?_⟩
  intro D0 S σ H o A' B Q E hw k kx
  obtain ⟨ey, hds, fs, v, dv, hs, hl, hdv, hw⟩ := hw
  obtain ⟨h1, h2⟩ := E.sl i _ hs
  obtain ⟨q, rfl⟩ := Option.isSome_iff_exists.mp hds
  rw [ey, hC] at hA
  cases hA
  have hq := vw_le _ _ (h2 q rfl)
  have hq' : H q = some (.xd fs) := by
    unfold co at hq
    cases z : H q with
    | none => rw [z] at hq; cases hq
    | some u =>
      rw [z] at hq
      cases u <;> simp [core] at hq ⊢
      · exact hq
      · rename_i o' w'
        cases w' <;> simp [isDct] at hq
  exact ⟨.ref e, h1, rfl, rfl, q, fs, v, rfl, hq', hl, k _ _ _ _ H hw E (XE.refl o H) (Val.of (rp_dV hdv))⟩
/-- isinstance(n, T) in the suite -/
def rIsE2 (K : PySem.W.Frag) (D a : Addr) (d : Option Addr) : List V → Hp → VK → Prop := fun xs H Q => ∃ (c : V) (cv : Value) (b : Bool), xs = [.ref a, c] ∧ (∀ u, RelV c u → u = cv) ∧ (∀ q, d = some q → ∃ fs, H q = some (.xd fs)) ∧ PySem.W.kitOne K (.ref D) cv = some b ∧ Q (.bl b) H
theorem call_isE2 {a D : Addr} {oe : Obj} {d : Option Addr} {pn : List (Addr × Obj)} (C : ExcC X.K D) (hz : Zc (.ref D) d oe) (hf : ∃ vs, oe.data = .fields vs) : CallR (X.suite a ((a, oe) :: pn)) (.builtin "isinstance") (rIsE2 X.K D a d) := by
  intro pins s σ H xs us Q I r h
  obtain ⟨c, cv, b, rfl, hcv, hd, e, q⟩ := h
  cases r with
  | cons rx rr =>
    cases rr with
    | cons rt rr =>
      cases rr
      cases rx
      have ec := hcv _ rt
      subst ec
      obtain ⟨hget, _⟩ := I.pin (a, oe) (List.mem_append.mpr (.inl List.mem_cons_self))
      obtain ⟨vs, hv⟩ := hf
      obtain ⟨cd, hcd, _⟩ := PySem.W.any_some C.hd
      have hcl : (PySem.W.clsIn X.K D).isSome = true := by rw [hcd]; rfl
      cases d with
      | none =>
        have J : PySem.W.InstAt s.heap a oe D none := ⟨hget, hz.1, by unfold PySem.W.notCls; rw [hv], by rw [hz.2]; trivial⟩
        exact PySem.W.kia_one (PySem.W.kitx_exc hcl C.hg C.hk C.hs C.ha C.hn C.ht C.hm) I.kIn J e (fun z => nomatch z) fun tk => ⟨.bl b, H, I.kept (t' := tk) fun _ _ z => z, rfl, q⟩
      | some q' =>
        obtain ⟨fs, hq⟩ := hd q' rfl
        obtain ⟨mA, hns, hr⟩ : ObjOk X.prog X.w H s.heap q' (.xd fs) := I.hok q' _ hq
        obtain ⟨od, ho, hl⟩ := lookIn_ns hns
        have J : PySem.W.InstAt s.heap a oe D (some od) := ⟨hget, hz.1, by unfold PySem.W.notCls; rw [hv], by rw [hz.2]; exact ho⟩
        exact PySem.W.kia_one (PySem.W.kitx_exc hcl C.hg C.hk C.hs C.ha C.hn C.ht C.hm) I.kIn J e (fun z => nomatch z) fun tk => ⟨.bl b, H, I.kept (t' := tk) fun _ _ z => z, rfl, q⟩
/-! for suites: what wants no calm -/
theorem ss_setN (i : Nat) {x : Str} {e : Expr} {p : Pos} {we : WEx} (nd : X.N.Nodup) (he : SE X W e we) (hi : X.N[i]? = some x := by rfl) (hx : Loc X.env.scope x := by first | exact Or.inl rfl | exact Or.inr rfl) (hs : swapsWith e (some (.Name x p)) pos.line X.env = pure false := by rfl) (hf : X.fn x = true ∨ X.env.scope.names.lookup x = some .local := by first | exact .inl rfl | exact .inr rfl) :
    SS X W (.Assign [.Name x p] e pos) (wSet i we) := by
  obtain ⟨te, pe, se⟩ := he.ex
  refine ⟨_, ps_set nd hi hx pe hs hf, ?_⟩
  intro D0 S σ H o P D E hw g
  refine se D0 S σ H o _ P.ex _ E hw (fun d c S1 v H1 h1 E1 x1 V1 => ?_) g.xw
  exact g.nx _ _ _ _ h1.2 (E1.put i ((V1.flat E1).2 h1.1)) x1.fr
theorem o_eqU (hu : X.A.units + 64 < cLine) : Op2 X (compareOp .Eq) gEq :=
  ⟨_, op_eqD hu, fun D0 S σ o H x y dx dy cx cy K Q E Vx Vy hg k => ⟨dx, dy, Vx.dp hg.1, Vy.dp hg.2.1, hg.1, hg.2.1, k _ _ _ H hg.2.2 (Le.refl H) (Val.of (.bl _))⟩⟩
theorem o_neU (hu : X.A.units + 64 < cLine) : Op2 X (compareOp .NotEq) gNe :=
  ⟨_, op_neD hu, fun D0 S σ o H x y dx dy cx cy K Q E Vx Vy hg k => ⟨dx, dy, Vx.dp hg.1, Vy.dp hg.2.1, hg.1, hg.2.1, k _ _ _ H hg.2.2 (Le.refl H) (Val.of (.bl _))⟩⟩
/-- isinstance(n, T), T a class of the text -/
structure IsX (K : PySem.W.Frag) (mg : Str → Option Value) (T : Str) (M : Str → Option Bool) : Prop where
  ex : ∃ C, mg T = some (.ref C) ∧ ∀ x b D, M x = some b → mg x = some (.ref D) → PySem.W.kitOne K (.ref D) (.ref C) = some b ∧ ExcC K D
def wXis (e : Addr) (d : Option Addr) (y : XC) (i : Nat) (M : Str → Option Bool) : WEx := fun S A _ => ∃ fs b, S[i]? = some (.ex e d fs) ∧ M y.1 = some b ∧ A (.bool b) True S
theorem se_xis {e A : Addr} {oe : Obj} {d : Option Addr} {pn : List (Addr × Obj)} {y : XC} {T n : Str} {M : Str → Option Bool} {p p1 p2 : Pos} (i : Nat) (hT : IsX X.K X.mg T M) (hm : X.mg "isinstance" = none) (hz : Zc (.ref A) d oe) (hf : ∃ vs, oe.data = .fields vs) (hA : X.mg y.1 = some (.ref A))
    (hi : X.N[i]? = some n := by rfl) (hv : Vis X.env.scope n := by first | exact Or.inl rfl | exact Or.inr (Or.inl rfl) | exact Or.inr (Or.inr rfl)) (hd : (n == ("__debug__" : Str)) = false := by decide) (hcd : (n == ("__classdict__" : Str)) = false := by decide)
    (hg : Gl X "isinstance" := by rfl) (hgT : Gl X T := by rfl) (hdT : (T == ("__debug__" : Str)) = false := by decide)
    (hst : starEach [.Name n p1, .Name T p2] X.env = (false, eval (.Name n p1) X.env) :: starEach [.Name T p2] X.env := by rfl) (hst2 : starEach [.Name T p2] X.env = (false, eval (.Name T p2) X.env) :: starEach [] X.env := by rfl) (hpl : (backTo pos (starEach [.Name T p2] X.env)).any (·.1) = false := by rfl) :
    SE (X.suite e ((e, oe) :: pn)) (WN X.mg) (.Call (.Name "isinstance" p) [.Name n p1, .Name T p2] [] pos) (wXis e d y i M) := by
  obtain ⟨C, hC, hM⟩ := hT.ex
  by_cases hD : ∃ b, M y.1 = some b
  · obtain ⟨b, hb⟩ := hD
    obtain ⟨h1, h2⟩ := hM _ _ _ hb hA
    refine ⟨_, pe_callB (X := X.suite e ((e, oe) :: pn)) (call_isE2 h2 hz hf) hg hm (by decide +kernel) (pa_cons (X := X.suite e ((e, oe) :: pn)) (pe_var (X := X.suite e ((e, oe) :: pn)) hi hv hd hcd) (pa_cons (X := X.suite e ((e, oe) :: pn)) (pe_glob (X := X.suite e ((e, oe) :: pn)) (v := .ref C) hgT hC rfl hdT) pa_nil hst2) hst) (by decide) (by decide) hst hpl, ?_⟩
    intro D0 S σ H o A' B Q E hw k kx
    obtain ⟨fs, b', hs, hb', hw⟩ := hw
    rw [hb] at hb'
    cases hb'
    obtain ⟨g1, g2⟩ := E.sl i _ hs
    refine ⟨.ref e, g1, .ref C, .ref C, b, rfl, fun u hu => hu, fun q hq => ?_, h1, k _ _ _ _ H hw E (XE.refl o H) (Val.of (.bl _))⟩
    have hq' := vw_le _ _ (g2 q hq)
    unfold co at hq'
    cases z : H q with
    | none => rw [z] at hq'; cases hq'
    | some u =>
      rw [z] at hq'
      cases u <;> simp [core] at hq'
      · exact ⟨_, rfl⟩
      · rename_i o' w'
        cases w' <;> simp [isDct] at hq'
  · refine ⟨fun _ _ _ => False, ⟨fun pins s σ H Q I h => h.elim⟩, ?_⟩
    intro D0 S σ H o A' B Q E hw k kx
    obtain ⟨fs, b', hs, hb', hw⟩ := hw
    exact hD ⟨b', hb'⟩
/-! xs + ys, a new list -/
def wCat (wa wb : WEx) : WLs := fun S A B => wa S (fun x cx S1 => wb S1 (fun y cy S2 => match x, y with
  | .list xs, .list ys => xs.length + ys.length ≤ sizeLine ∧ A (xs ++ ys) ((cx ∨ flats xs = true) ∧ (cy ∨ flats ys = true)) S2
  | _, _ => False) B) B
theorem so_cat {a b : Expr} {wa wb : WEx} (ha : SE X W a wa) (hb : SE X W b wb) : SO X W (.BinOp a .Add b pos) (wCat wa wb) := by
  obtain ⟨ta, pa, sa⟩ := ha.ex
  obtain ⟨tb, pb, sb⟩ := hb.ex
  refine ⟨_, pe_op op_cat pa pb, ?_⟩
  intro D0 S σ H o A B Q E hw k kx
  refine sa D0 S σ H o _ B _ E hw (fun d c S1 v H1 h1 E1 x1 V1 => ?_) kx
  refine sb D0 S1 σ H1 o _ B _ E1 h1 (fun d2 c2 S2 v2 H2 h2 E2 x2 V2 => ?_) (kx.on x1)
  split at h2
  · have V1' := V1.mono x2
    obtain ⟨a, vs, rfl, ea, ra, ca⟩ := V1'.items E2
    obtain ⟨b, ws, rfl, eb, rb, cb⟩ := V2.items E2
    exact ⟨a, b, vs, ws, rfl, rfl, ea, eb, by rw [ra.length, rb.length]; exact h2.1, fun p hp => k _ _ S2 _ p H2 h2.2 E2 (x1.trans x2) hp ⟨ra.append rb, fun z => (ca z.1).append (cb z.2)⟩⟩
  · exact h2.elim
/-! the frame's own list: its items are nobody's to change -/
def wCatV (i : Nat) (wb : WEx) : WLs := fun S A B => (∃ xs, S[i]? = some (.ol xs)) ∧ wb S (fun y cy S2 => match y, S2[i]? with
  | .list ys, some (.ol xs) => xs.length + ys.length ≤ sizeLine ∧ A (xs ++ ys) (cy ∨ flats ys = true) S2
  | _, _ => False) B
theorem so_catV (i : Nat) {x : Str} {p : Pos} {b : Expr} {wb : WEx} (hb : SE X W b wb) (hN : X.N[i]? = some x := by rfl) (hv : Vis X.env.scope x := by first | exact Or.inl rfl | exact Or.inr (Or.inl rfl) | exact Or.inr (Or.inr rfl))
    (hd : (x == ("__debug__" : Str)) = false := by decide) (hcd : (x == ("__classdict__" : Str)) = false := by decide) : SO X W (.BinOp (.Name x p) .Add b pos) (wCatV i wb) := by
  obtain ⟨tb, pb, sb⟩ := hb.ex
  refine ⟨_, pe_op op_cat (pe_var hN hv hd hcd) pb, ?_⟩
  intro D0 S σ H o A B Q E hw k kx
  obtain ⟨⟨xs0, hs0⟩, hw⟩ := hw
  obtain ⟨a, vs0, k1, k2, k3, k4⟩ := E.sl i _ hs0
  refine ⟨.ref a, k1, sb D0 S σ H o _ B _ E hw (fun d2 c2 S2 v2 H2 h2 E2 x2 V2 => ?_) kx⟩
  split at h2
  · rename_i ys xs hs2
    obtain ⟨a', vs, m1, m2, m3, m4⟩ := E2.sl i _ hs2
    rw [k1] at m1
    cases m1
    obtain ⟨b, ws, rfl, eb, rb, cb⟩ := V2.items E2
    exact ⟨a, b, vs, ws, rfl, rfl, co_lst m3, eb, by rw [m4.length, rb.length]; exact h2.1, fun p hp => k _ _ S2 _ p H2 h2.2 E2 x2 hp ⟨(m4.mono vw_le_vt).append rb, fun z => m4.append (cb z)⟩⟩
  · exact h2.elim
def wIxV (i : Nat) (wb : WEx) : WEx := fun S A B => (∃ xs, S[i]? = some (.ol xs)) ∧ wb S (fun y _ S2 => match y, S2[i]? with
  | .int j, some (.ol xs) => ∃ d, atD xs j = some d ∧ A d True S2
  | _, _ => False) B
theorem se_ixV (i : Nat) {x : Str} {p : Pos} {b : Expr} {wb : WEx} (hb : SE X W b wb) (hs : PlainIx b := by exact fun _ _ => rfl) (hN : X.N[i]? = some x := by rfl) (hv : Vis X.env.scope x := by first | exact Or.inl rfl | exact Or.inr (Or.inl rfl) | exact Or.inr (Or.inr rfl))
    (hd : (x == ("__debug__" : Str)) = false := by decide) (hcd : (x == ("__classdict__" : Str)) = false := by decide) : SE X W (.Subscript (.Name x p) b pos) (wIxV i wb) := by
  obtain ⟨tb, pb, sb⟩ := hb.ex
  refine ⟨_, pe_ix ix_seq (pe_var hN hv hd hcd) pb hs, ?_⟩
  intro D0 S σ H o A B Q E hw k kx
  obtain ⟨⟨xs0, hs0⟩, hw⟩ := hw
  obtain ⟨a, vs0, k1, k2, k3, k4⟩ := E.sl i _ hs0
  refine ⟨.ref a, k1, sb D0 S σ H o _ B _ E hw (fun y cy S2 u H2 h2 E2 x2 V2 => ?_) kx⟩
  split at h2
  · rename_i j xs hs2
    obtain ⟨d, hd', h2⟩ := h2
    obtain ⟨a', vs, m1, m2, m3, m4⟩ := E2.sl i _ hs2
    rw [k1] at m1
    cases m1
    cases V2.1
    obtain ⟨w', e1, r1⟩ := rp_at m4 hd'
    exact .inl ⟨a, vs, _, w', rfl, rfl, SqL.at (co_lst m3), e1, k _ _ S2 _ H2 h2 E2 x2 (Val.of r1)⟩
  · exact h2.elim
end
end Pu

namespace Pu
open PySem L2

/-! ### plain laws of the readings -/
theorem lc_ok {α : Type} {wg : WTg} {wt : WTx} {we : WEx} {c : Prop} {S : Slots} {K : List PyData → Prop → Prop} (enc : α → PyData) (p : α → Bool) (f : α → PyData) : ∀ (xs : List α) (acc : List PyData) (ca : Prop),
    (∀ x ∈ xs, ∀ (Yes : PyData → Prop → Prop) (No : Prop), (p x = true → Yes (f x) True) → (p x = false → No) →
      wg (enc x) c S fun S1 => wt S1 (fun b S2 => S2 = S1 ∧ if b = true then we S1 (fun e ce S3 => S3 = S1 ∧ Yes e ce) noX else No) noX) →
    acc.length + xs.length ≤ 1000000 → ca → (∀ c' : Prop, c' → K (acc ++ (xs.filter p).map f) c') → lcL wg wt we c S (xs.map enc) acc ca K
  | [], acc, ca, _, _, hc, hK => by
    have q := hK ca hc
    rw [List.filter_nil, List.map_nil, List.append_nil] at q
    exact q
  | x :: xs, acc, ca, h, hl, hc, hK => by
    show wg (enc x) c S fun S1 => wt S1 (fun b S2 => S2 = S1 ∧ if b = true then we S1 (fun e ce S3 => S3 = S1 ∧ acc.length < sizeLine ∧ lcL wg wt we c S (xs.map enc) (acc ++ [e]) (ca ∧ (ce ∨ flat e = true)) K) noX else lcL wg wt we c S (xs.map enc) acc ca K) noX
    rw [List.length_cons] at hl
    refine h x List.mem_cons_self (fun e ce => acc.length < sizeLine ∧ lcL wg wt we c S (xs.map enc) (acc ++ [e]) (ca ∧ (ce ∨ flat e = true)) K) _ (fun hp => ⟨by rw [sizeLine_eq]; omega, ?_⟩) fun hp => ?_
    · refine lc_ok enc p f xs _ _ (fun y hy => h y (List.mem_cons_of_mem _ hy)) (by rw [List.length_append]; show acc.length + 1 + xs.length ≤ _; omega) ⟨hc, .inl trivial⟩ fun c' hc' => ?_
      have q := hK c' hc'
      rw [List.filter_cons, if_pos hp, List.map_cons] at q
      rw [List.append_assoc]
      exact q
    · refine lc_ok enc p f xs _ _ (fun y hy => h y (List.mem_cons_of_mem _ hy)) (by omega) hc fun c' hc' => ?_
      have q := hK c' hc'
      rw [List.filter_cons, if_neg (by rw [hp]; exact Bool.false_ne_true)] at q
      exact q
theorem for_ok {α τ : Type} {wg : WTg} {wb : WS} {c : Prop} {P : En} (enc : α → PyData) (step : τ → α → τ) (Rel : τ → Slots → Prop) : ∀ (xs : List α) (s : τ) (S : Slots),
    (∀ x ∈ xs, ∀ s S, Rel s S → ∀ Nx : Slots → Prop, (∀ S', Rel (step s x) S' → Nx S') → wg (enc x) c S fun S1 => wb S1 { P with nx := Nx, ct := Nx, bk := P.nx }) →
    Rel s S → (∀ S', Rel (xs.foldl step s) S' → P.nx S') → forL wg wb c P (xs.map enc) S
  | [], s, S, _, hr, hn => hn S hr
  | x :: xs, s, S, h, hr, hn => by
    show wg (enc x) c S fun S1 => wb S1 { P with nx := forL wg wb c P (xs.map enc), ct := forL wg wb c P (xs.map enc), bk := P.nx }
    exact h x List.mem_cons_self s S hr _ fun S' hr' => for_ok enc step Rel xs (step s x) S' (fun y hy => h y (List.mem_cons_of_mem _ hy)) hr' hn
/-- a loop that may leave early: Inv holds of the items that are left -/
theorem for_inv {wg : WTg} {wb : WS} {c : Prop} {P : En} (Inv : List PyData → Slots → Prop) : ∀ (ds : List PyData) (S : Slots),
    (∀ d r S, Inv (d :: r) S → ∀ Nx : Slots → Prop, (∀ S', Inv r S' → Nx S') → wg d c S fun S1 => wb S1 { P with nx := Nx, ct := Nx, bk := P.nx }) →
    Inv ds S → (∀ S', Inv [] S' → P.nx S') → forL wg wb c P ds S
  | [], S, _, hr, hn => hn S hr
  | d :: r, S, h, hr, hn => h d r S hr _ fun S' hr' => for_inv Inv r S' h hr' hn
theorem wh_ok {τ : Type} {wt : WTx} {wb : WS} {P : En} (Rel : τ → Slots → Prop) (m : τ → Nat)
    (h : ∀ s S, Rel s S → ∀ (Nx : Slots → Prop), (∀ s' S', m s' < m s → Rel s' S' → Nx S') → wt S (fun b S1 => if b = true then wb S1 { P with nx := Nx, ct := Nx, bk := P.nx } else P.nx S1) P.ex) : ∀ (n : Nat) (s : τ) (S : Slots), m s < n → Rel s S → whL wt wb P n S
  | 0, s, S, hm, _ => absurd hm (Nat.not_lt_zero _)
  | n + 1, s, S, hm, hr => h s S hr (whL wt wb P n) fun s' S' hlt hr' => wh_ok Rel m h n s' S' (Nat.lt_of_lt_of_le hlt (Nat.le_of_lt_succ hm)) hr'
theorem rangeD_map (lo : Int) (n : Nat) : rangeD lo n = (List.range n).map fun (i : Nat) => PyData.int (lo + (i : Int)) := rfl
theorem rangeD0 (n : Nat) : rangeD 0 n = (List.range n).map fun (i : Nat) => PyData.int (i : Int) := by
  unfold rangeD
  refine List.map_congr_left fun i _ => ?_
  rw [Int.zero_add]

/-! ### the data of this program -/
abbrev eI (i : Int) : PyData := .int i
abbrev eN (i : Nat) : PyData := .int (i : Int)
def eH (h : List Int) : PyData := .tuple (h.map .int)
def eP (s : Nat × Nat) : PyData := .tuple [.int (s.1 : Int), .int (s.2 : Int)]
theorem flat_ints (l : List Int) : flats (l.map PyData.int) = true := flats_iff.mpr fun x hx => by
  obtain ⟨i, _, rfl⟩ := List.mem_map.mp hx
  rfl
theorem flat_eH (h : List Int) : flat (eH h) = true := by
  unfold eH
  rw [flat]
  exact flat_ints h
theorem flat_eP (s : Nat × Nat) : flat (eP s) = true := rfl
theorem canLay_ints : ∀ (l : List Int), PyData.canLayAll0 (l.map PyData.int) = true
  | [] => rfl
  | x :: r => by
    show PyData.canLayAll0 (.int x :: r.map PyData.int) = true
    rw [PyData.canLayAll0, canLay_ints r]
    rfl
theorem canLay_eH (h : List Int) : PyData.canLay0 (eH h) = true := by
  unfold eH
  rw [PyData.canLay0]
  exact canLay_ints h
theorem depth_eH (h : List Int) : (eH h).depth = 1 := by
  unfold eH
  rw [PyData.depth, PySem.W.depth_ints]
theorem shaped_of {d : PyData} (h1 : d.canLay0 = true) (h2 : d.depth ≤ 64) : SeqAt.shaped d = true := by
  unfold SeqAt.shaped
  rw [h1, decide_eq_true h2]
  rfl
theorem shaped_int (i : Int) : SeqAt.shaped (.int i) = true := shaped_of (by simp [PyData.canLay0]) (by simp [PyData.depth])
theorem shaped_none : SeqAt.shaped .none = true := shaped_of (by simp [PyData.canLay0]) (by simp [PyData.depth])
theorem shaped_bool (b : Bool) : SeqAt.shaped (.bool b) = true := shaped_of (by simp [PyData.canLay0]) (by simp [PyData.depth])
theorem shaped_eH (h : List Int) : SeqAt.shaped (eH h) = true := shaped_of (canLay_eH h) (by rw [depth_eH]; omega)
theorem canLay_eP (s : Nat × Nat) : PyData.canLay0 (eP s) = true := by simp [eP, PyData.canLay0, PyData.canLayAll0]
theorem depth_eP (s : Nat × Nat) : (eP s).depth = 1 := by simp [eP, PyData.depth, PyData.depthAll]
theorem shaped_eP (s : Nat × Nat) : SeqAt.shaped (eP s) = true := shaped_of (canLay_eP s) (by rw [depth_eP]; omega)
theorem canLayAll_map {α : Type} {f : α → PyData} (h : ∀ x, (f x).canLay0 = true) : ∀ l : List α, PyData.canLayAll0 (l.map f) = true
  | [] => rfl
  | x :: r => by
    show PyData.canLayAll0 (f x :: r.map f) = true
    rw [PyData.canLayAll0, canLayAll_map h r, h x]
    rfl
theorem depthAll_map {α : Type} {f : α → PyData} {n : Nat} (h : ∀ x, (f x).depth ≤ n) : ∀ l : List α, PyData.depthAll (l.map f) ≤ n
  | [] => by show PyData.depthAll [] ≤ n; rw [PyData.depthAll]; omega
  | x :: r => by
    show PyData.depthAll (f x :: r.map f) ≤ n
    rw [PyData.depthAll]
    exact Nat.max_le.mpr ⟨h x, depthAll_map h r⟩
theorem shaped_list {α : Type} {f : α → PyData} {n : Nat} (h1 : ∀ x, (f x).canLay0 = true) (h2 : ∀ x, (f x).depth ≤ n) (hn : n ≤ 60) (l : List α) : SeqAt.shaped (.list (l.map f)) = true := by
  refine shaped_of ?_ ?_
  · rw [PyData.canLay0]
    exact canLayAll_map h1 l
  · rw [PyData.depth]
    have := depthAll_map h2 l
    omega
theorem flats_map {α : Type} {f : α → PyData} (h : ∀ x, flat (f x) = true) (l : List α) : flats (l.map f) = true := flats_iff.mpr fun x hx => by
  obtain ⟨i, _, rfl⟩ := List.mem_map.mp hx
  exact h i
/-! equality of data -/
theorem eqv_int (i j : Int) : PyData.eqv (.int i) (.int j) = decide (i = j) := by
  rw [PyData.eqv]
  exact Bool.beq_eq_decide_eq i j
theorem eqvAll_map {α : Type} {f : α → PyData} [DecidableEq α] (h : ∀ x y, PyData.eqv (f x) (f y) = decide (x = y)) : ∀ a b : List α, PyData.eqvAll (a.map f) (b.map f) = decide (a = b)
  | [], [] => by simp [PyData.eqvAll]
  | [], _ :: _ => by simp [PyData.eqvAll]
  | _ :: _, [] => by simp [PyData.eqvAll]
  | x :: a, y :: b => by
    show PyData.eqvAll (f x :: a.map f) (f y :: b.map f) = _
    rw [PyData.eqvAll, h x y, eqvAll_map h a b]
    by_cases e1 : x = y
    · by_cases e2 : a = b
      · simp [e1, e2]
      · simp [e1, e2]
    · simp [e1]
theorem eqv_eH (a b : List Int) : PyData.eqv (eH a) (eH b) = decide (a = b) := by
  unfold eH
  rw [PyData.eqv]
  exact eqvAll_map eqv_int a b
theorem eqv_list {α : Type} {f : α → PyData} [DecidableEq α] (h : ∀ x y, PyData.eqv (f x) (f y) = decide (x = y)) (a b : List α) : PyData.eqv (.list (a.map f)) (.list (b.map f)) = decide (a = b) := by
  rw [PyData.eqv]
  exact eqvAll_map h a b
theorem eqv_eP (a b : Nat × Nat) : PyData.eqv (eP a) (eP b) = decide (a = b) := by
  unfold eP
  simp only [PyData.eqv, PyData.eqvAll, Bool.and_true, Bool.beq_eq_decide_eq]
  obtain ⟨a1, a2⟩ := a
  obtain ⟨b1, b2⟩ := b
  by_cases e1 : a1 = b1
  · by_cases e2 : a2 = b2
    · simp [e1, e2]
    · have : ¬ (a2 : Int) = b2 := by omega
      simp [e1, e2, this]
  · have : ¬ (a1 : Int) = b1 := by omega
    simp [e1, this]
theorem any_map {α : Type} {f : α → PyData} [DecidableEq α] (h : ∀ x y, PyData.eqv (f x) (f y) = decide (x = y)) (x : α) : ∀ l : List α, ((l.map f).any fun z => PyData.eqv z (f x)) = decide (x ∈ l)
  | [] => by simp
  | y :: l => by
    show (PyData.eqv (f y) (f x) || ((l.map f).any fun z => PyData.eqv z (f x))) = _
    rw [h y x, any_map h x l]
    by_cases e : y = x
    · subst e
      simp
    · have e' : x ≠ y := fun z => e z.symm
      simp [e, e']
/-! places -/
theorem atD_int {h : List Int} {i : Nat} (hi : i < h.length) : atD (h.map PyData.int) (i : Int) = some (.int (h.getD i 0)) := by
  unfold atD ixN
  rw [List.length_map, if_pos (by omega), if_pos (by omega)]
  show (h.map PyData.int)[(i : Int).toNat]? = _
  rw [Int.toNat_natCast, List.getElem?_map, List.getElem?_eq_getElem hi, List.getD_eq_getElem?_getD, List.getElem?_eq_getElem hi]
  rfl
theorem atD_map {α : Type} {f : α → PyData} {l : List α} {i : Nat} {x : α} (h : l[i]? = some x) : atD (l.map f) (i : Int) = some (f x) := by
  have hi := (List.getElem?_eq_some_iff.mp h).1
  unfold atD ixN
  rw [List.length_map, if_pos (by omega), if_pos (by omega)]
  show (l.map f)[(i : Int).toNat]? = _
  rw [Int.toNat_natCast, List.getElem?_map, h]
  rfl
theorem ixN_nat {n i : Nat} (h : i < n) : ixN n (i : Int) = some i := by
  unfold ixN
  rw [if_pos (by omega), if_pos (by omega), Int.toNat_natCast]
theorem seq_cut {w1 w2 : WS} {S : Slots} {P : En} (Rel : Slots → Prop) (h1 : ∀ Nx : Slots → Prop, (∀ S, Rel S → Nx S) → w1 S { P with nx := Nx }) (h2 : ∀ S, Rel S → w2 S P) : wSeq w1 w2 S P := h1 _ h2
end Pu

namespace Pu
open PySem L2 TL
/-! ### texts as lists of signs -/
def mkS (l : List Nat) : Str := ⟨l.toArray⟩
theorem tl_mkS (l : List Nat) : tl (mkS l) = l := rfl
theorem mkS_tl (x : Str) : mkS (tl x) = x := mk_tl x
theorem mkS_inj {a b : List Nat} (h : mkS a = mkS b) : a = b := by rw [← tl_mkS a, h, tl_mkS]
theorem str_eq {x y : Str} : x = y ↔ tl x = tl y := ⟨fun h => by rw [h], ext_tl⟩
/-- cut at the sign s -/
def spl1 (s : Nat) (l : List Nat) : List (List Nat) := spl [s] 0 [] l
theorem split_one (x y : Str) {s : Nat} (hy : tl y = [s]) (h256 : s < 256) : Txt.split x y = (spl1 s (tl x)).map mkS := by
  refine map_tl_inj ?_
  rw [split_spl x y (by rw [hy]; simp) (kind_ok ?_), hy, List.map_map]
  · have : (tl ∘ mkS) = id := by funext l; rfl
    rw [this, List.map_id]
    rfl
  · have e : y = mkS [s] := by rw [str_eq, hy, tl_mkS]
    subst e
    simp [mkS, h256]
theorem spl1_nil (s : Nat) : spl1 s [] = [[]] := rfl
theorem spl1_free {s : Nat} {p : List Nat} (h : s ∉ p) : spl1 s p = [p] := by
  unfold spl1
  rw [spl_last1 h]
  rfl
theorem spl1_cons {s : Nat} {p r : List Nat} (h : s ∉ p) : spl1 s (p ++ s :: r) = p :: spl1 s r := by
  unfold spl1
  have := spl_part1 (s := s) (S := []) (p := p) (rest := r) (acc := []) h
  simpa using this
/-- the words of a line -/
def wds (l : List Nat) : List (List Nat) := (spl1 32 l).filter fun w => decide (w ≠ [])
theorem wds_free {p : List Nat} (h : 32 ∉ p) (hn : p ≠ []) : wds p = [p] := by
  unfold wds
  rw [spl1_free h]
  simp [hn]
theorem wds_nil : wds [] = [] := rfl
theorem wds_word {p r : List Nat} (h : 32 ∉ p) (hn : p ≠ []) : wds (p ++ 32 :: r) = p :: wds r := by
  unfold wds
  rw [spl1_cons h]
  simp [hn]
theorem wds_sp (r : List Nat) : wds (32 :: r) = wds r := by
  unfold wds
  have := spl1_cons (s := 32) (p := []) (r := r) (by simp)
  rw [List.nil_append] at this
  rw [this]
  simp
theorem wds_sps (k : Nat) (r : List Nat) : wds (List.replicate k 32 ++ r) = wds r := by
  induction k with
  | zero => rfl
  | succ k ih => rw [List.replicate_succ, List.cons_append, wds_sp, ih]
/-- words, each with spaces behind it -/
def looseL : List (List Nat × Nat) → List Nat
  | [] => []
  | (w, k) :: r => w ++ (List.replicate (k + 1) 32 ++ looseL r)
theorem wds_loose : ∀ (ws : List (List Nat × Nat)), (∀ p ∈ ws, 32 ∉ p.1 ∧ p.1 ≠ []) → wds (looseL ws) = ws.map (·.1)
  | [], _ => rfl
  | (w, k) :: r, h => by
    obtain ⟨h1, h2⟩ := h _ List.mem_cons_self
    show wds (w ++ (32 :: List.replicate k 32 ++ looseL r)) = _
    rw [List.cons_append, wds_word h1 h2, wds_sps, wds_loose r fun p hp => h p (List.mem_cons_of_mem _ hp)]
    rfl
theorem wds_join : ∀ (ws : List (List Nat)), (∀ p ∈ ws, 32 ∉ p ∧ p ≠ []) → wds (joinL [32] ws) = ws
  | [], _ => rfl
  | [w], h => by
    obtain ⟨h1, h2⟩ := h _ List.mem_cons_self
    exact wds_free h1 h2
  | w :: v :: r, h => by
    obtain ⟨h1, h2⟩ := h _ List.mem_cons_self
    show wds (w ++ ([32] ++ joinL [32] (v :: r))) = _
    rw [List.singleton_append, wds_word h1 h2, wds_join (v :: r) fun p hp => h p (List.mem_cons_of_mem _ hp)]
/-! trailing spaces -/
theorem rstrip_tl (x : Str) : tl (Txt.rstrip x) = ((tl x).reverse.dropWhile Unicode.isSpace).reverse := by
  unfold Txt.rstrip
  rw [PyProof.Rows.stripBy_eq]
  have e1 : PySem.stripLo Unicode.isSpace false x = 0 := rfl
  rw [e1]
  have e2 : PySem.stripHi Unicode.isSpace true x 0 = x.length - ((tl x).reverse.takeWhile Unicode.isSpace).length := rfl
  rw [e2, tl_strSub]
  have h := List.takeWhile_append_dropWhile (p := Unicode.isSpace) (l := (tl x).reverse)
  have hr : tl x = ((tl x).reverse.dropWhile Unicode.isSpace).reverse ++ ((tl x).reverse.takeWhile Unicode.isSpace).reverse := by
    rw [← List.reverse_append, h, List.reverse_reverse]
  have hl : ((tl x).reverse.dropWhile Unicode.isSpace).reverse.length = x.length - ((tl x).reverse.takeWhile Unicode.isSpace).length := by
    have := congrArg List.length hr
    rw [List.length_append, List.length_reverse (as := List.takeWhile _ _)] at this
    have e := len_tl x
    omega
  rw [List.drop_zero, Nat.sub_zero, ← hl]
  exact (congrArg (List.take _) hr).trans List.take_left
theorem drop_keep {α : Type} {p : α → Bool} : ∀ {l : List α} {a : α} {m : List α}, (∀ x ∈ l, p x = true) → p a = false → (l ++ a :: m).dropWhile p = a :: m
  | [], a, m, _, h => by rw [List.nil_append, List.dropWhile_cons, h]; rfl
  | x :: l, a, m, hl, h => by
    rw [List.cons_append, List.dropWhile_cons, hl x List.mem_cons_self, if_pos rfl]
    exact drop_keep (fun y hy => hl y (List.mem_cons_of_mem _ hy)) h
/-- a text of words with no white signs, loosely set, less what is behind it -/
theorem rstrip_loose {a : List Nat} {c k : Nat} (hc : Unicode.isSpace c = false) : ((a ++ [c] ++ List.replicate k 32).reverse.dropWhile Unicode.isSpace).reverse = a ++ [c] := by
  rw [List.reverse_append, List.reverse_append, List.reverse_singleton, List.reverse_replicate]
  have h32 : Unicode.isSpace 32 = true := by decide +kernel
  rw [List.singleton_append, drop_keep (fun x hx => by rw [List.eq_of_mem_replicate hx]; exact h32) hc, List.reverse_cons, List.reverse_reverse]
theorem loose_last : ∀ (ws : List (List Nat × Nat)) (w : List Nat) (k : Nat), ∃ a, looseL (ws ++ [(w, k)]) = a ++ (w ++ List.replicate (k + 1) 32)
  | [], w, k => ⟨[], by show w ++ (List.replicate (k + 1) 32 ++ []) = _; simp⟩
  | (v, j) :: r, w, k => by
    obtain ⟨a, ha⟩ := loose_last r w k
    refine ⟨v ++ (List.replicate (j + 1) 32 ++ a), ?_⟩
    show v ++ (List.replicate (j + 1) 32 ++ looseL (r ++ [(w, k)])) = _
    rw [ha]
    simp
theorem wds_lead (k : Nat) (r : List Nat) : wds (List.replicate k 32 ++ r) = wds r := wds_sps k r
/-- the words of a loosely set line, less what is behind it -/
theorem wds_app_word : ∀ (ws : List (List Nat × Nat)), (∀ p ∈ ws, 32 ∉ p.1 ∧ p.1 ≠ []) → ∀ w : List Nat, 32 ∉ w → w ≠ [] → wds (looseL ws ++ w) = ws.map (·.1) ++ [w]
  | [], _, w, h1, h2 => by rw [show looseL [] = [] from rfl, List.nil_append, wds_free h1 h2]; rfl
  | (v, k) :: r, h, w, h1, h2 => by
    obtain ⟨g1, g2⟩ := h _ List.mem_cons_self
    show wds (v ++ (32 :: List.replicate k 32 ++ looseL r) ++ w) = _
    rw [List.append_assoc, List.cons_append, List.cons_append, wds_word g1 g2, List.append_assoc, wds_sps, wds_app_word r (fun p hp => h p (List.mem_cons_of_mem _ hp)) w h1 h2]
    rfl
theorem loose_app : ∀ (a b : List (List Nat × Nat)), looseL (a ++ b) = looseL a ++ looseL b
  | [], b => rfl
  | (v, k) :: r, b => by
    show v ++ (List.replicate (k + 1) 32 ++ looseL (r ++ b)) = v ++ (List.replicate (k + 1) 32 ++ looseL r) ++ looseL b
    rw [loose_app r b]
    simp
theorem wds_rstrip {ws : List (List Nat × Nat)} {k0 : Nat} (hne : ws ≠ []) (h : ∀ p ∈ ws, 32 ∉ p.1 ∧ p.1 ≠ [] ∧ ∀ c ∈ p.1, Unicode.isSpace c = false) :
    wds (((List.replicate k0 32 ++ looseL ws).reverse.dropWhile Unicode.isSpace).reverse) = ws.map (·.1) := by
  obtain ⟨init, p, rfl⟩ : ∃ init p, ws = init ++ [p] := ⟨ws.dropLast, ws.getLast hne, (List.dropLast_concat_getLast hne).symm⟩
  obtain ⟨w, k⟩ := p
  obtain ⟨h1, h2, h3⟩ := h (w, k) (List.mem_append_right _ (List.mem_singleton.mpr rfl))
  obtain ⟨w0, c, rfl⟩ : ∃ w0 c, w = w0 ++ [c] := ⟨w.dropLast, w.getLast h2, (List.dropLast_concat_getLast h2).symm⟩
  have hc := h3 c (List.mem_append_right _ (List.mem_singleton.mpr rfl))
  have e : List.replicate k0 32 ++ looseL (init ++ [(w0 ++ [c], k)]) = (List.replicate k0 32 ++ looseL init ++ w0) ++ [c] ++ List.replicate (k + 1) 32 := by
    rw [loose_app]
    show List.replicate k0 32 ++ (looseL init ++ (w0 ++ [c] ++ (List.replicate (k + 1) 32 ++ []))) = _
    simp
  rw [e, rstrip_loose hc, List.append_assoc, List.append_assoc, wds_lead, wds_app_word init (fun p hp => by
    obtain ⟨a, b, _⟩ := h p (List.mem_append_left _ hp)
    exact ⟨a, b⟩) (w0 ++ [c]) h1 h2, List.map_append]
  rfl
/-! lines -/
theorem spl1_join {s : Nat} {parts : List (List Nat)} (hne : parts ≠ []) (hp : ∀ p ∈ parts, s ∉ p) : spl1 s (joinL [s] parts) = parts := spl_join hne hp
theorem isSpace_num {n c : Nat} (h : c ∈ numL n) : Unicode.isSpace c = false := by
  obtain ⟨a, b⟩ := numL_digits n c h
  have hall : ∀ d, d < 10 → Unicode.isSpace (48 + d) = false := by decide +kernel
  have := hall (c - 48) (by omega)
  rwa [show 48 + (c - 48) = c from by omega] at this
end Pu

namespace Pu
open PySem L2
def Pure (n m : Nat) (sp : Spc) (w : WS) : Prop := ∀ (ds : List PyData) (A : PyData → Prop) (B : XC → Prop), ds.length = m → sp ds A B → w (startS n ds) ⟨fun _ => A .none, fun d _ _ => A d, fun _ => False, fun _ => False, fun x _ => B x⟩
def PureR (n m : Nat) (sp : Spc) (w : WS) : Prop := ∀ (ds : List PyData) (A : PyData → Prop) (B : XC → Prop) (a c : Addr), ds.length = m → sp ds A B →
  w (.rng a c :: startS n ds) ⟨fun S => S[0]? = some (.rng a c) ∧ A .none, fun d _ S => S[0]? = some (.rng a c) ∧ A d, fun _ => False, fun _ => False, fun x S => S[0]? = some (.rng a c) ∧ B x⟩
/-! ### what the defs of steps.py promise -/
def isInt : PyData → Bool
  | .int _ => true
  | _ => false
def sp_is_integer : Spc := fun ds A _ => ∃ d, ds = [d] ∧ typD d ≠ "dict" ∧ A (.bool (isInt d))
theorem sp_is_integer_eq {d : PyData} {A : PyData → Prop} {B : XC → Prop} : sp_is_integer [d] A B ↔ typD d ≠ "dict" ∧ A (.bool (isInt d)) :=
  ⟨fun ⟨_, h, h1, h2⟩ => by cases h; exact ⟨h1, h2⟩, fun ⟨h1, h2⟩ => ⟨_, rfl, h1, h2⟩⟩

def w_is_integer : WS :=
    (wRet (wAnd (wIsi "int" (wV 0)) (wNot (wIsi "bool" (wV 0)))))
theorem pure_is_integer : Pure 1 1 sp_is_integer w_is_integer := by
  rintro ds A B - ⟨d, rfl, h1, h2⟩
  cases d <;> simp_all [w_is_integer, startS, bl?, g2, gAdd, gDiv, gEq, gGe, gGt, gI, gIn, gInt, gIs, gIsNot, gLe, gLen, gList, gLt, gMM, gMod, gMul, gMulS, gNe, gNotIn, gPow, gSorted, gSub, gIadd, gSum, gTuple, puts, sV, sVs, slotM, wAnd, wApp, wAsg, wAug, wAugI, wB, wC, wCall, wCallR, wChain, wCons, wDraw, wDrop, wEnL, wEnT, wExt, wFn, wFnO, wFor, wGCons, wGNil, wGT, wIL, wIT, wIdx, wIf, wIfS, wIsi, wIx, wLc, wLst, wMNil, wMO, wMV, wMix, wN, wNeg, wNil, wNot, wNotT, wO, wOp, wOr, wOwn, wPar, wR1, wR2, wRaise, wRaiseF, wRet, wSeq, wSet, wSetI, wSkip, wTAnd, wTNot, wTOr, wTru, wTry, wTryF, wTup, wV, wYes, wSplit, wJoin, wRstrip, wFmt, wJNil, wJCons, wJs, gStr, gIntS, wIS, gSignNotIn, wSl, wSlt, wPn, wPs, gMulT, wGL, wTryAs, wXf, wXis, wCat, wCatV, wIxV, typD, isTb, isInt]
def inR (d : PyData) (lo hi : Int) : Bool := match d with
  | .int i => decide (lo ≤ i) && decide (i ≤ hi)
  | _ => false
def sp_is_from : Spc := fun ds A _ => ∃ d lo hi, ds = [d, .int lo, .int hi] ∧ typD d ≠ "dict" ∧ A (.bool (inR d lo hi))
theorem sp_is_from_eq {d : PyData} {lo hi : Int} {A : PyData → Prop} {B : XC → Prop} : sp_is_from [d, .int lo, .int hi] A B ↔ typD d ≠ "dict" ∧ A (.bool (inR d lo hi)) :=
  ⟨fun ⟨_, _, _, h, h1, h2⟩ => by cases h; exact ⟨h1, h2⟩, fun ⟨h1, h2⟩ => ⟨_, _, _, rfl, h1, h2⟩⟩

def w_is_from : WS :=
    (wRet (wAnd (wCall sp_is_integer (wCons (wV 0) wNil)) (wChain gLe gLe (wV 1) (wV 0) (wV 2))))
theorem pure_is_from : Pure 3 3 sp_is_from w_is_from := by
  rintro ds A B - ⟨d, lo, hi, rfl, h1, h2⟩
  cases d <;> simp_all [w_is_from, startS, bl?, g2, gAdd, gDiv, gEq, gGe, gGt, gI, gIn, gInt, gIs, gIsNot, gLe, gLen, gList, gLt, gMM, gMod, gMul, gMulS, gNe, gNotIn, gPow, gSorted, gSub, gIadd, gSum, gTuple, puts, sV, sVs, slotM, wAnd, wApp, wAsg, wAug, wAugI, wB, wC, wCall, wCallR, wChain, wCons, wDraw, wDrop, wEnL, wEnT, wExt, wFn, wFnO, wFor, wGCons, wGNil, wGT, wIL, wIT, wIdx, wIf, wIfS, wIsi, wIx, wLc, wLst, wMNil, wMO, wMV, wMix, wN, wNeg, wNil, wNot, wNotT, wO, wOp, wOr, wOwn, wPar, wR1, wR2, wRaise, wRaiseF, wRet, wSeq, wSet, wSetI, wSkip, wTAnd, wTNot, wTOr, wTru, wTry, wTryF, wTup, wV, wYes, wSplit, wJoin, wRstrip, wFmt, wJNil, wJCons, wJs, gStr, gIntS, wIS, gSignNotIn, wSl, wSlt, wPn, wPs, gMulT, wGL, wTryAs, wXf, wXis, wCat, wCatV, wIxV, sp_is_integer, typD, isInt, inR]
  rename_i i
  by_cases c1 : lo ≤ i
  · simpa [c1] using h2
  · simpa [c1] using h2
/-- the items of a tuple are no dicts -/
def plainD (d : PyData) : Prop := typD d ≠ "dict" ∧ ∀ xs, d = .tuple xs → ∀ x ∈ xs, typD x ≠ "dict"
abbrev big : Int := 1000000000000000000000000000000
def isHeapsD : PyData → Bool
  | .tuple xs => decide (2 ≤ xs.length) && decide (xs.length ≤ 6) && xs.all (fun x => inR x 0 big) && xs.any (fun x => match x with
    | .int i => decide (i ≠ 0)
    | _ => false)
  | _ => false
def sp_check_heaps : Spc := fun ds A B => ∃ d, ds = [d] ∧ plainD d ∧ (isHeapsD d = true → A .none) ∧ (isHeapsD d = false → B ("BadHeaps", []))

def w_check_heaps : WS :=
    (wSeq (wIfS (wTOr (wTNot (wB (wIsi "tuple" (wV 0)))) (wTNot (wB (wChain gLe gLe (wC (.int 2)) (wFn gLen (wCons (wV 0) wNil)) (wC (.int 6)))))) (wRaise "BadHeaps") wSkip)
    (wSeq (wFor (wIT (wV 0)) (wN 1) (wIfS (wTNot (wB (wCall sp_is_from (wCons (wV 1) (wCons (wC (.int 0)) (wCons (wC (.int 1000000000000000000000000000000)) wNil)))))) (wRaise "BadHeaps") wSkip))
    (wIfS (wB (wOp gEq (wFn (gMM max) (wCons (wV 0) wNil)) (wC (.int 0)))) (wRaise "BadHeaps") wSkip)))
theorem all_ints : ∀ {xs : List PyData}, xs.all (fun x => inR x 0 big) = true → ∃ ns : List Int, xs = ns.map .int ∧ ∀ n ∈ ns, 0 ≤ n ∧ n ≤ big
  | [], _ => ⟨[], rfl, fun n h => by cases h⟩
  | x :: r, h => by
    rw [List.all_cons, Bool.and_eq_true] at h
    obtain ⟨ns, rfl, hn⟩ := all_ints h.2
    cases x with
    | int i =>
      have h1 := h.1
      simp only [inR, Bool.and_eq_true, decide_eq_true_eq] at h1
      exact ⟨i :: ns, rfl, fun n hm => by
        rcases List.mem_cons.mp hm with z | z
        · rw [z]; exact h1
        · exact hn n z⟩
    | _ => exact absurd h.1 (by simp [inR])
theorem fold_max_ge : ∀ (ns : List Int) (n : Int), n ≤ ns.foldl max n ∧ ∀ x ∈ ns, x ≤ ns.foldl max n
  | [], n => ⟨Int.le_refl _, fun x h => by cases h⟩
  | y :: r, n => by
    obtain ⟨h1, h2⟩ := fold_max_ge r (max n y)
    refine ⟨Int.le_trans (Int.le_max_left n y) h1, fun x h => ?_⟩
    rcases List.mem_cons.mp h with z | z
    · rw [z]; exact Int.le_trans (Int.le_max_right n y) h1
    · exact h2 x z
theorem fold_max_in : ∀ (ns : List Int) (n : Int), ns.foldl max n = n ∨ ns.foldl max n ∈ ns
  | [], n => .inl rfl
  | y :: r, n => by
    rcases fold_max_in r (max n y) with h | h
    · show r.foldl max (max n y) = n ∨ r.foldl max (max n y) ∈ y :: r
      rw [h]
      by_cases c : n ≤ y
      · right; rw [Int.max_eq_right c]; exact List.mem_cons_self
      · left; exact Int.max_eq_left (by omega)
    · right; exact List.mem_cons_of_mem _ h
theorem any_ints (ns : List Int) : ((ns.map PyData.int).any fun x => match x with
    | .int i => decide (i ≠ 0)
    | _ => false) = ns.any fun i => decide (i ≠ 0) := by
  rw [List.any_map]
  rfl
theorem pure_check_heaps : Pure 2 1 sp_check_heaps w_check_heaps := by
  rintro ds A B - ⟨d, rfl, ⟨hp, hq⟩, h1, h2⟩
  cases d with
  | tuple xs =>
    simp only [w_check_heaps, startS, bl?, g2, gAdd, gDiv, gEq, gGe, gGt, gI, gIn, gInt, gIs, gIsNot, gLe, gLen, gList, gLt, gMM, gMod, gMul, gMulS, gNe, gNotIn, gPow, gSorted, gSub, gIadd, gSum, gTuple, puts, sV, sVs, slotM, wAnd, wApp, wAsg, wAug, wAugI, wB, wC, wCall, wCallR, wChain, wCons, wDraw, wDrop, wEnL, wEnT, wExt, wFn, wFnO, wFor, wGCons, wGNil, wGT, wIL, wIT, wIdx, wIf, wIfS, wIsi, wIx, wLc, wLst, wMNil, wMO, wMV, wMix, wN, wNeg, wNil, wNot, wNotT, wO, wOp, wOr, wOwn, wPar, wR1, wR2, wRaise, wRaiseF, wRet, wSeq, wSet, wSetI, wSkip, wTAnd, wTNot, wTOr, wTru, wTry, wTryF, wTup, wV, wYes, wSplit, wJoin, wRstrip, wFmt, wJNil, wJCons, wJs, gStr, gIntS, wIS, gSignNotIn, wSl, wSlt, wPn, wPs, gMulT, wGL, wTryAs, wXf, wXis, wCat, wCatV, wIxV, typD, isTb]
    simp
    by_cases c1 : 2 ≤ xs.length
    · by_cases c2 : xs.length ≤ 6
      · rw [if_pos (by omega), if_neg (by omega)]
        cases hall : xs.all (fun x => inR x 0 big) with
        | true =>
          obtain ⟨ns, rfl, hn⟩ := all_ints hall
          refine for_inv (fun r S => (∃ s, S = [.im (.tuple (ns.map .int)), s]) ∧ ∀ x ∈ r, x ∈ ns.map PyData.int) _ _ (fun d r S ⟨⟨s, es⟩, hr⟩ Nx hN => ?_) ⟨⟨_, rfl⟩, fun x h => h⟩ fun S ⟨⟨s, es⟩, _⟩ => ?_
          · subst es
            obtain ⟨n, hm, rfl⟩ := List.mem_map.mp (hr _ List.mem_cons_self)
            obtain ⟨b1, b2⟩ := hn n hm
            have hi : inR (.int n) 0 big = true := by simp only [inR, decide_eq_true b1, decide_eq_true b2]; rfl
            simp only [bl?, g2, gAdd, gDiv, gEq, gGe, gGt, gI, gIn, gInt, gIs, gIsNot, gLe, gLen, gList, gLt, gMM, gMod, gMul, gMulS, gNe, gNotIn, gPow, gSorted, gSub, gIadd, gSum, gTuple, puts, sV, sVs, slotM, wAnd, wApp, wAsg, wAug, wAugI, wB, wC, wCall, wCallR, wChain, wCons, wDraw, wDrop, wEnL, wEnT, wExt, wFn, wFnO, wFor, wGCons, wGNil, wGT, wIL, wIT, wIdx, wIf, wIfS, wIsi, wIx, wLc, wLst, wMNil, wMO, wMV, wMix, wN, wNeg, wNil, wNot, wNotT, wO, wOp, wOr, wOwn, wPar, wR1, wR2, wRaise, wRaiseF, wRet, wSeq, wSet, wSetI, wSkip, wTAnd, wTNot, wTOr, wTru, wTry, wTryF, wTup, wV, wYes, wSplit, wJoin, wRstrip, wFmt, wJNil, wJCons, wJs, gStr, gIntS, wIS, gSignNotIn, wSl, wSlt, wPn, wPs, gMulT, wGL, wTryAs, wXf, wXis, wCat, wCatV, wIxV, sp_is_from_eq]
            simp [typD, hi, flat]
            exact hN _ ⟨⟨_, rfl⟩, fun x hx => hr x (List.mem_cons_of_mem _ hx)⟩
          · subst es
            cases ns with
            | nil => simp at c1
            | cons n ns =>
              obtain ⟨g1, g2⟩ := fold_max_ge ns n
              have hz : ∀ x ∈ n :: ns, x ≤ ns.foldl max n := fun x hx => by
                rcases List.mem_cons.mp hx with z | z
                · rw [z]; exact g1
                · exact g2 x z
              simp
              refine ⟨n, ns, ints?_map (n :: ns), shaped_int _, shaped_int _, ?_⟩
              rw [eqv_int]
              have lx : (decide (2 ≤ ((n :: ns).map PyData.int).length) && decide (((n :: ns).map PyData.int).length ≤ 6)) = true := by
                rw [decide_eq_true c1, decide_eq_true c2]; rfl
              by_cases c3 : ns.foldl max n = 0
              · rw [if_pos (decide_eq_true c3)]
                refine h2 ?_
                simp only [isHeapsD]
                rw [lx, hall, any_ints]
                simp only [Bool.true_and]
                rw [List.any_eq_false]
                intro x hx
                have q1 := hz x hx
                have q2 := (hn x hx).1
                simp
                omega
              · rw [if_neg (by simpa using c3)]
                refine h1 ?_
                simp only [isHeapsD]
                rw [lx, hall, any_ints]
                simp only [Bool.true_and]
                rw [List.any_eq_true]
                refine ⟨ns.foldl max n, ?_, by simpa using c3⟩
                rcases fold_max_in ns n with q | q
                · rw [q]; exact List.mem_cons_self
                · exact List.mem_cons_of_mem _ q
        | false =>
          have hB := h2 (by simp only [isHeapsD]; rw [hall]; simp)
          refine for_inv (fun r S => (∃ s, S = [.im (.tuple xs), s]) ∧ (∀ x ∈ r, x ∈ xs) ∧ r.all (fun x => inR x 0 big) = false) _ _ (fun d r S ⟨⟨s, es⟩, hr, ha⟩ Nx hN => ?_) ⟨⟨_, rfl⟩, fun x h => h, hall⟩ fun S ⟨_, _, z⟩ => by cases z
          subst es
          have hd := hq xs rfl d (hr _ List.mem_cons_self)
          simp only [bl?, g2, gAdd, gDiv, gEq, gGe, gGt, gI, gIn, gInt, gIs, gIsNot, gLe, gLen, gList, gLt, gMM, gMod, gMul, gMulS, gNe, gNotIn, gPow, gSorted, gSub, gIadd, gSum, gTuple, puts, sV, sVs, slotM, wAnd, wApp, wAsg, wAug, wAugI, wB, wC, wCall, wCallR, wChain, wCons, wDraw, wDrop, wEnL, wEnT, wExt, wFn, wFnO, wFor, wGCons, wGNil, wGT, wIL, wIT, wIdx, wIf, wIfS, wIsi, wIx, wLc, wLst, wMNil, wMO, wMV, wMix, wN, wNeg, wNil, wNot, wNotT, wO, wOp, wOr, wOwn, wPar, wR1, wR2, wRaise, wRaiseF, wRet, wSeq, wSet, wSetI, wSkip, wTAnd, wTNot, wTOr, wTru, wTry, wTryF, wTup, wV, wYes, wSplit, wJoin, wRstrip, wFmt, wJNil, wJCons, wJs, gStr, gIntS, wIS, gSignNotIn, wSl, wSlt, wPn, wPs, gMulT, wGL, wTryAs, wXf, wXis, wCat, wCatV, wIxV, sp_is_from_eq]
          cases hi : inR d 0 big with
          | true =>
            simp [hd, hi]
            refine hN _ ⟨⟨_, rfl⟩, fun x hx => hr x (List.mem_cons_of_mem _ hx), ?_⟩
            rw [List.all_cons, hi] at ha
            exact ha
          | false =>
            simp [hd, hi]
            exact hB
      · rw [if_pos (by omega), if_pos (by omega)]
        exact h2 (by simp only [isHeapsD, decide_eq_false c2]; simp)
    · rw [if_neg (by omega)]
      exact h2 (by simp only [isHeapsD, decide_eq_false c1]; simp)
  | _ => simp_all [w_check_heaps, startS, bl?, g2, gAdd, gDiv, gEq, gGe, gGt, gI, gIn, gInt, gIs, gIsNot, gLe, gLen, gList, gLt, gMM, gMod, gMul, gMulS, gNe, gNotIn, gPow, gSorted, gSub, gIadd, gSum, gTuple, puts, sV, sVs, slotM, wAnd, wApp, wAsg, wAug, wAugI, wB, wC, wCall, wCallR, wChain, wCons, wDraw, wDrop, wEnL, wEnT, wExt, wFn, wFnO, wFor, wGCons, wGNil, wGT, wIL, wIT, wIdx, wIf, wIfS, wIsi, wIx, wLc, wLst, wMNil, wMO, wMV, wMix, wN, wNeg, wNil, wNot, wNotT, wO, wOp, wOr, wOwn, wPar, wR1, wR2, wRaise, wRaiseF, wRet, wSeq, wSet, wSetI, wSkip, wTAnd, wTNot, wTOr, wTru, wTry, wTryF, wTup, wV, wYes, wSplit, wJoin, wRstrip, wFmt, wJNil, wJCons, wJs, gStr, gIntS, wIS, gSignNotIn, wSl, wSlt, wPn, wPs, gMulT, wGL, wTryAs, wXf, wXis, wCat, wCatV, wIxV, typD, isTb, isHeapsD]

/-! heaps as lists -/
structure OkH (h : List Int) : Prop where
  l2 : 2 ≤ h.length
  l6 : h.length ≤ 6
  rg : ∀ x ∈ h, 0 ≤ x ∧ x ≤ big
  nz : ∃ x ∈ h, x ≠ 0
theorem typ_eH (h : List Int) : typD (eH h) ≠ "dict" := by simp [eH, typD]
theorem plain_eH (h : List Int) : plainD (eH h) := ⟨typ_eH h, fun xs e x hx => by
  have e' : h.map PyData.int = xs := by simpa [eH] using e
  rw [← e'] at hx
  obtain ⟨i, _, rfl⟩ := List.mem_map.mp hx
  simp [typD]⟩
theorem heaps_ok {h : List Int} (o : OkH h) : isHeapsD (eH h) = true := by
  simp only [isHeapsD, eH, List.length_map, decide_eq_true o.l2, decide_eq_true o.l6, any_ints, Bool.and_true, Bool.true_and]
  rw [Bool.and_eq_true, List.all_eq_true, List.any_eq_true]
  refine ⟨fun x hx => ?_, ?_⟩
  · obtain ⟨i, hi, rfl⟩ := List.mem_map.mp hx
    obtain ⟨b1, b2⟩ := o.rg i hi
    simp only [inR, decide_eq_true b1, decide_eq_true b2]
    rfl
  · obtain ⟨x, hx, hn⟩ := o.nz
    exact ⟨x, hx, decide_eq_true hn⟩
theorem check_ok {h : List Int} (o : OkH h) {A : PyData → Prop} {B : XC → Prop} (hA : A .none) : sp_check_heaps [eH h] A B :=
  ⟨_, rfl, plain_eH h, fun _ => hA, fun z => by rw [heaps_ok o] at z; cases z⟩
/-- a step in range -/
def okS (n : Nat) (s : Nat × Nat) : Prop := s.1 < n ∧ s.2 < n ∧ s.1 ≠ s.2
def isStepD (d : PyData) (n : Int) : Bool := match d with
  | .tuple [x, y] => inR x 0 (n - 1) && inR y 0 (n - 1) && (match x, y with
    | .int i, .int j => decide (i ≠ j)
    | _, _ => false)
  | _ => false
theorem typ_tup {xs : List PyData} : typD (.tuple xs) = "tuple" := rfl
theorem isT_tt : isTb "tuple" "tuple" = true := by decide
def sp_is_step : Spc := fun ds A _ => ∃ d n, ds = [d, .int n] ∧ plainD d ∧ A (.bool (isStepD d n))
theorem sp_is_step_eq {d : PyData} {n : Int} {A : PyData → Prop} {B : XC → Prop} : sp_is_step [d, .int n] A B ↔ plainD d ∧ A (.bool (isStepD d n)) :=
  ⟨fun ⟨_, _, h, h1, h2⟩ => by cases h; exact ⟨h1, h2⟩, fun ⟨h1, h2⟩ => ⟨_, _, rfl, h1, h2⟩⟩

def w_is_step : WS :=
    (wSeq (wIfS (wTOr (wTNot (wB (wIsi "tuple" (wV 0)))) (wB (wOp gNe (wFn gLen (wCons (wV 0) wNil)) (wC (.int 2))))) (wRet (wC (.bool false))) wSkip)
    (wSeq (wIfS (wTOr (wTNot (wB (wCall sp_is_from (wCons (wIx (wV 0) (wC (.int 0))) (wCons (wC (.int 0)) (wCons (wOp gSub (wV 1) (wC (.int 1))) wNil)))))) (wTNot (wB (wCall sp_is_from (wCons (wIx (wV 0) (wC (.int 1))) (wCons (wC (.int 0)) (wCons (wOp gSub (wV 1) (wC (.int 1))) wNil))))))) (wRet (wC (.bool false))) wSkip)
    (wRet (wOp gNe (wIx (wV 0) (wC (.int 0))) (wIx (wV 0) (wC (.int 1)))))))
theorem pure_is_step : Pure 2 2 sp_is_step w_is_step := by
  rintro ds A B - ⟨d, n, rfl, ⟨hp, hq⟩, h⟩
  cases d with
  | tuple xs =>
    have hq := hq xs rfl
    simp only [w_is_step, bl?, g2, gAdd, gDiv, gEq, gGe, gGt, gI, gIn, gInt, gIs, gIsNot, gLe, gLen, gList, gLt, gMM, gMod, gMul, gMulS, gNe, gNotIn, gPow, gSorted, gSub, gIadd, gSum, gTuple, puts, sV, sVs, slotM, wAnd, wApp, wAsg, wAug, wAugI, wB, wC, wCall, wCallR, wChain, wCons, wDraw, wDrop, wEnL, wEnT, wExt, wFn, wFnO, wFor, wGCons, wGNil, wGT, wIL, wIT, wIdx, wIf, wIfS, wIsi, wIx, wLc, wLst, wMNil, wMO, wMV, wMix, wN, wNeg, wNil, wNot, wNotT, wO, wOp, wOr, wOwn, wPar, wR1, wR2, wRaise, wRaiseF, wRet, wSeq, wSet, wSetI, wSkip, wTAnd, wTNot, wTOr, wTru, wTry, wTryF, wTup, wV, wYes, wSplit, wJoin, wRstrip, wFmt, wJNil, wJCons, wJs, gStr, gIntS, wIS, gSignNotIn, wSl, wSlt, wPn, wPs, gMulT, wGL, wTryAs, wXf, wXis, wCat, wCatV, wIxV, startS, List.length_cons, List.length_nil, List.map_cons, List.map_nil, List.getElem?_cons_zero, List.getElem?_cons_succ, List.set_cons_zero, List.set_cons_succ, List.cons_append, List.nil_append, List.append_nil, List.replicate_succ, List.replicate_zero, Nat.reduceAdd, Nat.reduceSub, ↓reduceIte, Bool.false_eq_true, reduceCtorEq, true_and, and_true, true_or, or_true, false_or, or_false, Bool.not_true, Bool.not_false, Bool.true_and, Bool.false_and, Bool.and_true, decide_eq_true_eq, Bool.not_eq_eq_eq_not, exists_eq_left, exists_eq_left', Option.some.injEq, typ_tup, isT_tt, sp_is_from_eq]
    match xs, hq with
    | [], _ => simpa [shaped_int, eqv_int, isStepD] using h
    | [x], _ => simpa [shaped_int, eqv_int, isStepD] using h
    | [x, y], hq =>
      have hx := hq x (by simp)
      have hy := hq y (by simp)
      simp [shaped_int, eqv_int, atD, ixN, hx, hy]
      simp only [isStepD] at h
      cases c1 : inR x 0 (n - 1) with
      | false => rw [c1] at h; simpa using h
      | true =>
        cases c2 : inR y 0 (n - 1) with
        | false => rw [c1, c2] at h; simpa using h
        | true =>
          rw [c1, c2] at h
          cases x <;> simp [inR] at c1
          cases y <;> simp [inR] at c2
          simpa [shaped_int, eqv_int] using h
    | x :: y :: z :: r, _ =>
      have e : ¬ ((r.length : Int) + 1 + 1 + 1 = 2) := by omega
      simpa [shaped_int, eqv_int, isStepD, e] using h
  | _ => simp_all [w_is_step, startS, bl?, g2, gAdd, gDiv, gEq, gGe, gGt, gI, gIn, gInt, gIs, gIsNot, gLe, gLen, gList, gLt, gMM, gMod, gMul, gMulS, gNe, gNotIn, gPow, gSorted, gSub, gIadd, gSum, gTuple, puts, sV, sVs, slotM, wAnd, wApp, wAsg, wAug, wAugI, wB, wC, wCall, wCallR, wChain, wCons, wDraw, wDrop, wEnL, wEnT, wExt, wFn, wFnO, wFor, wGCons, wGNil, wGT, wIL, wIT, wIdx, wIf, wIfS, wIsi, wIx, wLc, wLst, wMNil, wMO, wMV, wMix, wN, wNeg, wNil, wNot, wNotT, wO, wOp, wOr, wOwn, wPar, wR1, wR2, wRaise, wRaiseF, wRet, wSeq, wSet, wSetI, wSkip, wTAnd, wTNot, wTOr, wTru, wTry, wTryF, wTup, wV, wYes, wSplit, wJoin, wRstrip, wFmt, wJNil, wJCons, wJs, gStr, gIntS, wIS, gSignNotIn, wSl, wSlt, wPn, wPs, gMulT, wGL, wTryAs, wXf, wXis, wCat, wCatV, wIxV, typD, isTb, isStepD]
theorem plain_eP (s : Nat × Nat) : plainD (eP s) := ⟨by simp [eP, typD], fun xs e x hx => by
  have e' : [PyData.int (s.1 : Int), .int (s.2 : Int)] = xs := by simpa [eP] using e
  rw [← e'] at hx
  simp at hx
  rcases hx with z | z <;> (rw [z]; simp [typD])⟩
theorem isStep_eP (s : Nat × Nat) (n : Nat) : isStepD (eP s) n = (decide (s.1 < n) && decide (s.2 < n) && decide (s.1 ≠ s.2)) := by
  unfold isStepD eP inR
  by_cases c1 : s.1 < n
  · by_cases c2 : s.2 < n
    · by_cases c3 : s.1 = s.2
      · have : (s.1 : Int) = s.2 := by omega
        simp [c1, c2, c3]
      · have : ¬ (s.1 : Int) = s.2 := by omega
        have q1 : (s.1 : Int) ≤ n - 1 := by omega
        have q2 : (s.2 : Int) ≤ n - 1 := by omega
        simp [c1, c2, c3, this, q1, q2]
    · have q2 : ¬ (s.2 : Int) ≤ n - 1 := by omega
      simp [c1, c2, q2]
  · have q2 : ¬ (s.1 : Int) ≤ n - 1 := by omega
    simp [c1, q2]
/-- can a step be made; the heaps behind it -/
def gt (h : List Int) (i : Nat) : Int := h.getD i 0
theorem at_gt {h : List Int} {i : Nat} (hi : i < h.length) : atD (h.map PyData.int) (i : Int) = some (.int (gt h i)) := atD_int hi
def can (h : List Int) (s : Nat × Nat) : Bool := decide (0 < gt h s.2) && decide (gt h s.2 ≤ gt h s.1)
def beh (h : List Int) (s : Nat × Nat) : List Int :=
  (h.set s.1 (gt h s.1 - gt h s.2)).set s.2 (gt (h.set s.1 (gt h s.1 - gt h s.2)) s.2 + gt h s.2)
def sp_can_be_made : Spc := fun ds A _ => ∃ h s, ds = [eH h, eP s] ∧ s.1 < h.length ∧ s.2 < h.length ∧ A (.bool (can h s))

def w_can_be_made : WS :=
    (wSeq (wAsg (wV 1) (wGT 2 (wGCons (wN 2) (wGCons (wN 3) wGNil))))
    (wRet (wChain gLt gLe (wC (.int 0)) (wIx (wV 0) (wV 3)) (wIx (wV 0) (wV 2)))))
theorem flat_int (i : Int) : flat (.int i) = true := rfl
theorem if_dec {c : Prop} [Decidable c] {A : Bool → Prop} {b : Bool} (h : A (decide c && b)) : if c then A b else A false := by
  by_cases k : c
  · rw [if_pos k]; rw [decide_eq_true k] at h; exact h
  · rw [if_neg k]; rw [decide_eq_false k] at h; exact h
theorem pure_can_be_made : Pure 4 2 sp_can_be_made w_can_be_made := by
  rintro ds A B - ⟨h, ⟨i, j⟩, rfl, hi, hj, hA⟩
  have hi : i < h.length := hi
  have hj : j < h.length := hj
  simp only [w_can_be_made, bl?, g2, gAdd, gDiv, gEq, gGe, gGt, gI, gIn, gInt, gIs, gIsNot, gLe, gLen, gList, gLt, gMM, gMod, gMul, gMulS, gNe, gNotIn, gPow, gSorted, gSub, gIadd, gSum, gTuple, puts, sV, sVs, slotM, wAnd, wApp, wAsg, wAug, wAugI, wB, wC, wCall, wCallR, wChain, wCons, wDraw, wDrop, wEnL, wEnT, wExt, wFn, wFnO, wFor, wGCons, wGNil, wGT, wIL, wIT, wIdx, wIf, wIfS, wIsi, wIx, wLc, wLst, wMNil, wMO, wMV, wMix, wN, wNeg, wNil, wNot, wNotT, wO, wOp, wOr, wOwn, wPar, wR1, wR2, wRaise, wRaiseF, wRet, wSeq, wSet, wSetI, wSkip, wTAnd, wTNot, wTOr, wTru, wTry, wTryF, wTup, wV, wYes, wSplit, wJoin, wRstrip, wFmt, wJNil, wJCons, wJs, gStr, gIntS, wIS, gSignNotIn, wSl, wSlt, wPn, wPs, gMulT, wGL, wTryAs, wXf, wXis, wCat, wCatV, wIxV, startS, List.length_cons, List.length_nil, List.map_cons, List.map_nil, List.getElem?_cons_zero, List.getElem?_cons_succ, List.set_cons_zero, List.set_cons_succ, List.cons_append, List.nil_append, List.append_nil, List.replicate_succ, List.replicate_zero, Nat.reduceAdd, Nat.reduceSub, ↓reduceIte, Bool.false_eq_true, reduceCtorEq, true_and, and_true, true_or, or_true, false_or, or_false, Bool.not_true, Bool.not_false, Bool.true_and, Bool.false_and, Bool.and_true, decide_eq_true_eq, Bool.not_eq_eq_eq_not, exists_eq_left, exists_eq_left', Option.some.injEq, eH, eP, at_gt hi, at_gt hj, flat_int]
  exact if_dec (A := fun b => A (.bool b)) hA
def sp_behind : Spc := fun ds A _ => ∃ h s, ds = [eH h, eP s] ∧ s.1 < h.length ∧ s.2 < h.length ∧ A (eH (beh h s))

def w_behind : WS :=
    (wSeq (wAsg (wV 1) (wGT 2 (wGCons (wN 2) (wGCons (wN 3) wGNil))))
    (wSeq (wOwn 4 (wFnO gList (wCons (wV 0) wNil)))
    (wSeq (wAugI 4 gSub (wV 2) (wIx (wV 0) (wV 3)))
    (wSeq (wAugI 4 gIadd (wV 3) (wIx (wV 0) (wV 3)))
    (wRet (wFn gTuple (wCons (wV 4) wNil)))))))
theorem map_set_int (h : List Int) (i : Nat) (x : Int) : (h.map PyData.int).set i (.int x) = (h.set i x).map .int := by rw [List.map_set]
theorem nat_le (i : Nat) : (0 : Int) ≤ i := Int.natCast_nonneg i
theorem pure_behind : Pure 5 2 sp_behind w_behind := by
  rintro ds A B - ⟨h, ⟨i, j⟩, rfl, hi, hj, hA⟩
  have hi : i < h.length := hi
  have hj : j < h.length := hj
  have hj' : j < (h.set i (gt h i - gt h j)).length := by rw [List.length_set]; exact hj
  simp only [w_behind, bl?, g2, gAdd, gDiv, gEq, gGe, gGt, gI, gIn, gInt, gIs, gIsNot, gLe, gLen, gList, gLt, gMM, gMod, gMul, gMulS, gNe, gNotIn, gPow, gSorted, gSub, gIadd, gSum, gTuple, puts, sV, sVs, slotM, wAnd, wApp, wAsg, wAug, wAugI, wB, wC, wCall, wCallR, wChain, wCons, wDraw, wDrop, wEnL, wEnT, wExt, wFn, wFnO, wFor, wGCons, wGNil, wGT, wIL, wIT, wIdx, wIf, wIfS, wIsi, wIx, wLc, wLst, wMNil, wMO, wMV, wMix, wN, wNeg, wNil, wNot, wNotT, wO, wOp, wOr, wOwn, wPar, wR1, wR2, wRaise, wRaiseF, wRet, wSeq, wSet, wSetI, wSkip, wTAnd, wTNot, wTOr, wTru, wTry, wTryF, wTup, wV, wYes, wSplit, wJoin, wRstrip, wFmt, wJNil, wJCons, wJs, gStr, gIntS, wIS, gSignNotIn, wSl, wSlt, wPn, wPs, gMulT, wGL, wTryAs, wXf, wXis, wCat, wCatV, wIxV, startS, List.length_cons, List.length_nil, List.map_cons, List.map_nil, List.getElem?_cons_zero, List.getElem?_cons_succ, List.set_cons_zero, List.set_cons_succ, List.cons_append, List.nil_append, List.append_nil, List.replicate_succ, List.replicate_zero, Nat.reduceAdd, Nat.reduceSub, ↓reduceIte, Bool.false_eq_true, reduceCtorEq, true_and, and_true, true_or, or_true, false_or, or_false, Bool.not_true, Bool.not_false, Bool.true_and, Bool.false_and, Bool.and_true, decide_eq_true_eq, Bool.not_eq_eq_eq_not, exists_eq_left, exists_eq_left', Option.some.injEq, eH, eP, at_gt hi, at_gt hj, flat_int, flat_ints, List.length_map, ixN_nat hi, map_set_int, at_gt hj', ixN_nat hj', nat_le]
  exact ⟨⟨_, rfl⟩, ⟨_, rfl⟩, hA⟩
end Pu


namespace Pu
open PySem L2
theorem at_ints {l : List Int} {i : Int} (h0 : 0 ≤ i) (h1 : i < l.length) : ∃ z, atI (l.map V.int) i = some (.int z) ∧ z ∈ l := by
  obtain ⟨j, rfl⟩ := Int.eq_ofNat_of_zero_le h0
  have hj : j < l.length := by omega
  refine ⟨l[j], ?_, List.getElem_mem hj⟩
  unfold atI ixN
  rw [List.length_map, if_pos (by omega), if_pos (by omega)]
  show (l.map V.int)[(j : Int).toNat]? = _
  rw [Int.toNat_natCast, List.getElem?_map, List.getElem?_eq_getElem hj]
  rfl
theorem fmod_in {i j : Int} (h : 1 ≤ j) : 0 ≤ i.fmod j ∧ i.fmod j < j := by
  rw [Int.fmod_eq_emod_of_nonneg i (by omega)]
  exact ⟨Int.emod_nonneg _ (by omega), Int.emod_lt_of_pos _ (by omega)⟩
def eO : Option Nat → PyData
  | none => .none
  | some k => .int (k : Int)
theorem flat_eO (o : Option Nat) : flat (eO o) = true := by cases o <;> rfl
def eL (p : List (Nat × Nat)) : PyData := .tuple (p.map eP)
theorem flats_eP (p : List (Nat × Nat)) : flats (p.map eP) = true := flats_map flat_eP p
def goneF : List Int → List (Nat × Nat) → Nat → List Int × Option Nat
  | h, [], _ => (h, none)
  | h, s :: r, k => if can h s = true then goneF (beh h s) r (k + 1) else (h, some k)
theorem beh_len (h : List Int) (s : Nat × Nat) : (beh h s).length = h.length := by unfold beh; rw [List.length_set, List.length_set]
def InP (n : Nat) (p : List (Nat × Nat)) : Prop := ∀ s ∈ p, s.1 < n ∧ s.2 < n
def OkP (n : Nat) (p : List (Nat × Nat)) : Prop := ∀ s ∈ p, okS n s
theorem OkP.inP {n : Nat} {p : List (Nat × Nat)} (h : OkP n p) : InP n p := fun s hs => ⟨(h s hs).1, (h s hs).2.1⟩
theorem can_use {h : List Int} {s : Nat × Nat} {A : PyData → Prop} {B : XC → Prop} (h1 : s.1 < h.length) (h2 : s.2 < h.length) (hA : A (.bool (can h s))) : sp_can_be_made [eH h, eP s] A B := ⟨h, s, rfl, h1, h2, hA⟩
theorem beh_use {h : List Int} {s : Nat × Nat} {A : PyData → Prop} {B : XC → Prop} (h1 : s.1 < h.length) (h2 : s.2 < h.length) (hA : A (eH (beh h s))) : sp_behind [eH h, eP s] A B := ⟨h, s, rfl, h1, h2, hA⟩
def sp_gone_through : Spc := fun ds A _ => ∃ h p, ds = [eH h, eL p] ∧ InP h.length p ∧ A (.tuple [eH (goneF h p 0).1, eO (goneF h p 0).2])

def w_gone_through : WS :=
    (wSeq (wFor (wEnT (wV 1)) (wGT 2 (wGCons (wN 2) (wGCons (wN 3) wGNil))) (wSeq (wIfS (wTNot (wB (wCall sp_can_be_made (wCons (wV 0) (wCons (wV 3) wNil))))) (wRet (wTup (wCons (wV 0) (wCons (wV 2) wNil)))) wSkip)
    (wSet 0 (wCall sp_behind (wCons (wV 0) (wCons (wV 3) wNil))))))
    (wRet (wTup (wCons (wV 0) (wCons (wC .none) wNil)))))
theorem pure_gone_through : Pure 4 2 sp_gone_through w_gone_through := by
  rintro ds A B - ⟨h, p, rfl, hp, hA⟩
  simp only [w_gone_through, bl?, g2, gAdd, gDiv, gEq, gGe, gGt, gI, gIn, gInt, gIs, gIsNot, gLe, gLen, gList, gLt, gMM, gMod, gMul, gMulS, gNe, gNotIn, gPow, gSorted, gSub, gIadd, gSum, gTuple, puts, sV, sVs, slotM, wAnd, wApp, wAsg, wAug, wAugI, wB, wC, wCall, wCallR, wChain, wCons, wDraw, wDrop, wEnL, wEnT, wExt, wFn, wFnO, wFor, wGCons, wGNil, wGT, wIL, wIT, wIdx, wIf, wIfS, wIsi, wIx, wLc, wLst, wMNil, wMO, wMV, wMix, wN, wNeg, wNil, wNot, wNotT, wO, wOp, wOr, wOwn, wPar, wR1, wR2, wRaise, wRaiseF, wRet, wSeq, wSet, wSetI, wSkip, wTAnd, wTNot, wTOr, wTru, wTry, wTryF, wTup, wV, wYes, wSplit, wJoin, wRstrip, wFmt, wJNil, wJCons, wJs, gStr, gIntS, wIS, gSignNotIn, wSl, wSlt, wPn, wPs, gMulT, wGL, wTryAs, wXf, wXis, wCat, wCatV, wIxV, startS, List.length_cons, List.length_nil, List.map_cons, List.map_nil, List.getElem?_cons_zero, List.getElem?_cons_succ, List.set_cons_zero, List.set_cons_succ, List.cons_append, List.nil_append, List.append_nil, List.replicate_succ, List.replicate_zero, Nat.reduceAdd, Nat.reduceSub, ↓reduceIte, Bool.false_eq_true, reduceCtorEq, true_and, and_true, true_or, or_true, false_or, or_false, Bool.not_true, Bool.not_false, Bool.true_and, Bool.false_and, Bool.and_true, decide_eq_true_eq, Bool.not_eq_eq_eq_not, exists_eq_left, exists_eq_left', Option.some.injEq, eL]
  refine for_inv (fun r S => ∃ k q g s2 s3, r = enumFr k (q.map eP) ∧ S = [.im (eH g), .im (.tuple (p.map eP)), s2, s3] ∧ InP g.length q ∧ A (.tuple [eH (goneF g q k).1, eO (goneF g q k).2])) _ _ ?_ ⟨0, p, h, _, _, rfl, rfl, hp, hA⟩ ?_
  · rintro d r S ⟨k, q, g, s2, s3, er, rfl, hq, hA⟩ Nx hN
    cases q with
    | nil => cases er
    | cons s q =>
      cases er
      have hs := hq s List.mem_cons_self
      simp only [bl?, g2, gAdd, gDiv, gEq, gGe, gGt, gI, gIn, gInt, gIs, gIsNot, gLe, gLen, gList, gLt, gMM, gMod, gMul, gMulS, gNe, gNotIn, gPow, gSorted, gSub, gIadd, gSum, gTuple, puts, sV, sVs, slotM, wAnd, wApp, wAsg, wAug, wAugI, wB, wC, wCall, wCallR, wChain, wCons, wDraw, wDrop, wEnL, wEnT, wExt, wFn, wFnO, wFor, wGCons, wGNil, wGT, wIL, wIT, wIdx, wIf, wIfS, wIsi, wIx, wLc, wLst, wMNil, wMO, wMV, wMix, wN, wNeg, wNil, wNot, wNotT, wO, wOp, wOr, wOwn, wPar, wR1, wR2, wRaise, wRaiseF, wRet, wSeq, wSet, wSetI, wSkip, wTAnd, wTNot, wTOr, wTru, wTry, wTryF, wTup, wV, wYes, wSplit, wJoin, wRstrip, wFmt, wJNil, wJCons, wJs, gStr, gIntS, wIS, gSignNotIn, wSl, wSlt, wPn, wPs, gMulT, wGL, wTryAs, wXf, wXis, wCat, wCatV, wIxV, startS, List.length_cons, List.length_nil, List.map_cons, List.map_nil, List.getElem?_cons_zero, List.getElem?_cons_succ, List.set_cons_zero, List.set_cons_succ, List.cons_append, List.nil_append, List.append_nil, List.replicate_succ, List.replicate_zero, Nat.reduceAdd, Nat.reduceSub, ↓reduceIte, Bool.false_eq_true, reduceCtorEq, true_and, and_true, true_or, or_true, false_or, or_false, Bool.not_true, Bool.not_false, Bool.true_and, Bool.false_and, Bool.and_true, decide_eq_true_eq, Bool.not_eq_eq_eq_not, exists_eq_left, exists_eq_left', Option.some.injEq, flat_int, flat_eP]
      refine can_use hs.1 hs.2 ?_
      by_cases c : can g s = true
      · simp only [c, bl?, g2, gAdd, gDiv, gEq, gGe, gGt, gI, gIn, gInt, gIs, gIsNot, gLe, gLen, gList, gLt, gMM, gMod, gMul, gMulS, gNe, gNotIn, gPow, gSorted, gSub, gIadd, gSum, gTuple, puts, sV, sVs, slotM, wAnd, wApp, wAsg, wAug, wAugI, wB, wC, wCall, wCallR, wChain, wCons, wDraw, wDrop, wEnL, wEnT, wExt, wFn, wFnO, wFor, wGCons, wGNil, wGT, wIL, wIT, wIdx, wIf, wIfS, wIsi, wIx, wLc, wLst, wMNil, wMO, wMV, wMix, wN, wNeg, wNil, wNot, wNotT, wO, wOp, wOr, wOwn, wPar, wR1, wR2, wRaise, wRaiseF, wRet, wSeq, wSet, wSetI, wSkip, wTAnd, wTNot, wTOr, wTru, wTry, wTryF, wTup, wV, wYes, wSplit, wJoin, wRstrip, wFmt, wJNil, wJCons, wJs, gStr, gIntS, wIS, gSignNotIn, wSl, wSlt, wPn, wPs, gMulT, wGL, wTryAs, wXf, wXis, wCat, wCatV, wIxV, startS, List.length_cons, List.length_nil, List.map_cons, List.map_nil, List.getElem?_cons_zero, List.getElem?_cons_succ, List.set_cons_zero, List.set_cons_succ, List.cons_append, List.nil_append, List.append_nil, List.replicate_succ, List.replicate_zero, Nat.reduceAdd, Nat.reduceSub, ↓reduceIte, Bool.false_eq_true, reduceCtorEq, true_and, and_true, true_or, or_true, false_or, or_false, Bool.not_true, Bool.not_false, Bool.true_and, Bool.false_and, Bool.and_true, decide_eq_true_eq, Bool.not_eq_eq_eq_not, exists_eq_left, exists_eq_left', Option.some.injEq]
        refine beh_use hs.1 hs.2 (hN _ ⟨k + 1, q, beh g s, _, _, rfl, rfl, fun x hx => by rw [beh_len]; exact hq x (List.mem_cons_of_mem _ hx), ?_⟩)
        have e : goneF g (s :: q) k = goneF (beh g s) q (k + 1) := by show (if can g s = true then _ else _) = _; rw [if_pos c]
        rw [e] at hA
        exact hA
      · have c' : can g s = false := by simpa using c
        have e : goneF g (s :: q) k = (g, some k) := by show (if can g s = true then _ else _) = _; rw [if_neg c]
        rw [e] at hA
        simp only [c', bl?, g2, gAdd, gDiv, gEq, gGe, gGt, gI, gIn, gInt, gIs, gIsNot, gLe, gLen, gList, gLt, gMM, gMod, gMul, gMulS, gNe, gNotIn, gPow, gSorted, gSub, gIadd, gSum, gTuple, puts, sV, sVs, slotM, wAnd, wApp, wAsg, wAug, wAugI, wB, wC, wCall, wCallR, wChain, wCons, wDraw, wDrop, wEnL, wEnT, wExt, wFn, wFnO, wFor, wGCons, wGNil, wGT, wIL, wIT, wIdx, wIf, wIfS, wIsi, wIx, wLc, wLst, wMNil, wMO, wMV, wMix, wN, wNeg, wNil, wNot, wNotT, wO, wOp, wOr, wOwn, wPar, wR1, wR2, wRaise, wRaiseF, wRet, wSeq, wSet, wSetI, wSkip, wTAnd, wTNot, wTOr, wTru, wTry, wTryF, wTup, wV, wYes, wSplit, wJoin, wRstrip, wFmt, wJNil, wJCons, wJs, gStr, gIntS, wIS, gSignNotIn, wSl, wSlt, wPn, wPs, gMulT, wGL, wTryAs, wXf, wXis, wCat, wCatV, wIxV, startS, List.length_cons, List.length_nil, List.map_cons, List.map_nil, List.getElem?_cons_zero, List.getElem?_cons_succ, List.set_cons_zero, List.set_cons_succ, List.cons_append, List.nil_append, List.append_nil, List.replicate_succ, List.replicate_zero, Nat.reduceAdd, Nat.reduceSub, ↓reduceIte, Bool.false_eq_true, reduceCtorEq, true_and, and_true, true_or, or_true, false_or, or_false, Bool.not_true, Bool.not_false, Bool.true_and, Bool.false_and, Bool.and_true, decide_eq_true_eq, Bool.not_eq_eq_eq_not, exists_eq_left, exists_eq_left', Option.some.injEq]
        exact ⟨by decide, hA⟩
  · rintro S ⟨k, q, g, s2, s3, er, rfl, hq, hA⟩
    cases q with
    | nil =>
      simp only [bl?, g2, gAdd, gDiv, gEq, gGe, gGt, gI, gIn, gInt, gIs, gIsNot, gLe, gLen, gList, gLt, gMM, gMod, gMul, gMulS, gNe, gNotIn, gPow, gSorted, gSub, gIadd, gSum, gTuple, puts, sV, sVs, slotM, wAnd, wApp, wAsg, wAug, wAugI, wB, wC, wCall, wCallR, wChain, wCons, wDraw, wDrop, wEnL, wEnT, wExt, wFn, wFnO, wFor, wGCons, wGNil, wGT, wIL, wIT, wIdx, wIf, wIfS, wIsi, wIx, wLc, wLst, wMNil, wMO, wMV, wMix, wN, wNeg, wNil, wNot, wNotT, wO, wOp, wOr, wOwn, wPar, wR1, wR2, wRaise, wRaiseF, wRet, wSeq, wSet, wSetI, wSkip, wTAnd, wTNot, wTOr, wTru, wTry, wTryF, wTup, wV, wYes, wSplit, wJoin, wRstrip, wFmt, wJNil, wJCons, wJs, gStr, gIntS, wIS, gSignNotIn, wSl, wSlt, wPn, wPs, gMulT, wGL, wTryAs, wXf, wXis, wCat, wCatV, wIxV, startS, List.length_cons, List.length_nil, List.map_cons, List.map_nil, List.getElem?_cons_zero, List.getElem?_cons_succ, List.set_cons_zero, List.set_cons_succ, List.cons_append, List.nil_append, List.append_nil, List.replicate_succ, List.replicate_zero, Nat.reduceAdd, Nat.reduceSub, ↓reduceIte, Bool.false_eq_true, reduceCtorEq, true_and, and_true, true_or, or_true, false_or, or_false, Bool.not_true, Bool.not_false, Bool.true_and, Bool.false_and, Bool.and_true, decide_eq_true_eq, Bool.not_eq_eq_eq_not, exists_eq_left, exists_eq_left', Option.some.injEq]
      exact ⟨by decide, hA⟩
    | cons s q => cases er
def sp_check_plan : Spc := fun ds A _ => ∃ h p, ds = [eH h, eL p] ∧ OkH h ∧ OkP h.length p ∧ p.length ≤ 20000 ∧ A .none

def w_check_plan : WS :=
    (wSeq (wDrop (wCall sp_check_heaps (wCons (wV 0) wNil)))
    (wSeq (wIfS (wTOr (wTNot (wB (wIsi "tuple" (wV 1)))) (wB (wOp gGt (wFn gLen (wCons (wV 1) wNil)) (wC (.int 20000))))) (wRaiseF "BadPlan" ["index"] (wCons (wC .none) wNil)) wSkip)
    (wFor (wEnT (wV 1)) (wGT 2 (wGCons (wN 2) (wGCons (wN 3) wGNil))) (wIfS (wTNot (wB (wCall sp_is_step (wCons (wV 3) (wCons (wFn gLen (wCons (wV 0) wNil)) wNil))))) (wRaiseF "BadPlan" ["index"] (wCons (wV 2) wNil)) wSkip))))
theorem len_eL (p : List (Nat × Nat)) : ((p.map eP).length : Int) = p.length := by rw [List.length_map]
theorem len_eH (h : List Int) : ((h.map PyData.int).length : Int) = h.length := by rw [List.length_map]
theorem pure_check_plan : Pure 4 2 sp_check_plan w_check_plan := by
  rintro ds A B - ⟨h, p, rfl, oh, op, hl, hA⟩
  simp only [w_check_plan, bl?, g2, gAdd, gDiv, gEq, gGe, gGt, gI, gIn, gInt, gIs, gIsNot, gLe, gLen, gList, gLt, gMM, gMod, gMul, gMulS, gNe, gNotIn, gPow, gSorted, gSub, gIadd, gSum, gTuple, puts, sV, sVs, slotM, wAnd, wApp, wAsg, wAug, wAugI, wB, wC, wCall, wCallR, wChain, wCons, wDraw, wDrop, wEnL, wEnT, wExt, wFn, wFnO, wFor, wGCons, wGNil, wGT, wIL, wIT, wIdx, wIf, wIfS, wIsi, wIx, wLc, wLst, wMNil, wMO, wMV, wMix, wN, wNeg, wNil, wNot, wNotT, wO, wOp, wOr, wOwn, wPar, wR1, wR2, wRaise, wRaiseF, wRet, wSeq, wSet, wSetI, wSkip, wTAnd, wTNot, wTOr, wTru, wTry, wTryF, wTup, wV, wYes, wSplit, wJoin, wRstrip, wFmt, wJNil, wJCons, wJs, gStr, gIntS, wIS, gSignNotIn, wSl, wSlt, wPn, wPs, gMulT, wGL, wTryAs, wXf, wXis, wCat, wCatV, wIxV, startS, List.length_cons, List.length_nil, List.map_cons, List.map_nil, List.getElem?_cons_zero, List.getElem?_cons_succ, List.set_cons_zero, List.set_cons_succ, List.cons_append, List.nil_append, List.append_nil, List.replicate_succ, List.replicate_zero, Nat.reduceAdd, Nat.reduceSub, ↓reduceIte, Bool.false_eq_true, reduceCtorEq, true_and, and_true, true_or, or_true, false_or, or_false, Bool.not_true, Bool.not_false, Bool.true_and, Bool.false_and, Bool.and_true, decide_eq_true_eq, Bool.not_eq_eq_eq_not, exists_eq_left, exists_eq_left', Option.some.injEq, eL]
  refine check_ok oh ?_
  have hl' : ¬ ((20000 : Int) < p.length) := by omega
  simp only [startS, List.length_cons, List.length_nil, List.map_cons, List.map_nil, List.getElem?_cons_zero, List.getElem?_cons_succ, List.set_cons_zero, List.set_cons_succ, List.cons_append, List.nil_append, List.append_nil, List.replicate_succ, List.replicate_zero, Nat.reduceAdd, Nat.reduceSub, ↓reduceIte, Bool.false_eq_true, reduceCtorEq, true_and, and_true, true_or, or_true, false_or, or_false, Bool.not_true, Bool.not_false, Bool.true_and, Bool.false_and, Bool.and_true, decide_eq_true_eq, Bool.not_eq_eq_eq_not, exists_eq_left, exists_eq_left', Option.some.injEq, typ_tup, isT_tt, bl?, g2, gAdd, gDiv, gEq, gGe, gGt, gI, gIn, gInt, gIs, gIsNot, gLe, gLen, gList, gLt, gMM, gMod, gMul, gMulS, gNe, gNotIn, gPow, gSorted, gSub, gIadd, gSum, gTuple, puts, sV, sVs, slotM, wAnd, wApp, wAsg, wAug, wAugI, wB, wC, wCall, wCallR, wChain, wCons, wDraw, wDrop, wEnL, wEnT, wExt, wFn, wFnO, wFor, wGCons, wGNil, wGT, wIL, wIT, wIdx, wIf, wIfS, wIsi, wIx, wLc, wLst, wMNil, wMO, wMV, wMix, wN, wNeg, wNil, wNot, wNotT, wO, wOp, wOr, wOwn, wPar, wR1, wR2, wRaise, wRaiseF, wRet, wSeq, wSet, wSetI, wSkip, wTAnd, wTNot, wTOr, wTru, wTry, wTryF, wTup, wV, wYes, wSplit, wJoin, wRstrip, wFmt, wJNil, wJCons, wJs, gStr, gIntS, wIS, gSignNotIn, wSl, wSlt, wPn, wPs, gMulT, wGL, wTryAs, wXf, wXis, wCat, wCatV, wIxV, len_eL, hl', decide_false]
  refine ⟨by decide, for_inv (fun r S => ∃ k q s2 s3, r = enumFr k (q.map eP) ∧ S = [.im (eH h), .im (.tuple (p.map eP)), s2, s3] ∧ OkP h.length q) _ _ ?_ ⟨0, p, _, _, rfl, rfl, op⟩ ?_⟩
  · rintro d r S ⟨k, q, s2, s3, er, rfl, hq⟩ Nx hN
    cases q with
    | nil => cases er
    | cons s q =>
      cases er
      have hs := hq s List.mem_cons_self
      have e : isStepD (eP s) (h.length : Int) = true := by rw [isStep_eP, decide_eq_true hs.1, decide_eq_true hs.2.1, decide_eq_true hs.2.2]; rfl
      simp only [bl?, g2, gAdd, gDiv, gEq, gGe, gGt, gI, gIn, gInt, gIs, gIsNot, gLe, gLen, gList, gLt, gMM, gMod, gMul, gMulS, gNe, gNotIn, gPow, gSorted, gSub, gIadd, gSum, gTuple, puts, sV, sVs, slotM, wAnd, wApp, wAsg, wAug, wAugI, wB, wC, wCall, wCallR, wChain, wCons, wDraw, wDrop, wEnL, wEnT, wExt, wFn, wFnO, wFor, wGCons, wGNil, wGT, wIL, wIT, wIdx, wIf, wIfS, wIsi, wIx, wLc, wLst, wMNil, wMO, wMV, wMix, wN, wNeg, wNil, wNot, wNotT, wO, wOp, wOr, wOwn, wPar, wR1, wR2, wRaise, wRaiseF, wRet, wSeq, wSet, wSetI, wSkip, wTAnd, wTNot, wTOr, wTru, wTry, wTryF, wTup, wV, wYes, wSplit, wJoin, wRstrip, wFmt, wJNil, wJCons, wJs, gStr, gIntS, wIS, gSignNotIn, wSl, wSlt, wPn, wPs, gMulT, wGL, wTryAs, wXf, wXis, wCat, wCatV, wIxV, startS, List.length_cons, List.length_nil, List.map_cons, List.map_nil, List.getElem?_cons_zero, List.getElem?_cons_succ, List.set_cons_zero, List.set_cons_succ, List.cons_append, List.nil_append, List.append_nil, List.replicate_succ, List.replicate_zero, Nat.reduceAdd, Nat.reduceSub, ↓reduceIte, Bool.false_eq_true, reduceCtorEq, true_and, and_true, true_or, or_true, false_or, or_false, Bool.not_true, Bool.not_false, Bool.true_and, Bool.false_and, Bool.and_true, decide_eq_true_eq, Bool.not_eq_eq_eq_not, exists_eq_left, exists_eq_left', Option.some.injEq, flat_int, flat_eP, eH, len_eH, sp_is_step_eq, e]
      exact ⟨plain_eP s, hN _ ⟨k + 1, q, _, _, rfl, rfl, fun x hx => hq x (List.mem_cons_of_mem _ hx)⟩⟩
  · rintro S ⟨k, q, s2, s3, er, rfl, hq⟩
    exact hA
def sp_judge : Spc := fun ds A _ => ∃ h p, ds = [eH h, eL p] ∧ OkH h ∧ OkP h.length p ∧ p.length ≤ 20000 ∧ A (eO (goneF h p 0).2)

def w_judge : WS :=
    (wSeq (wDrop (wCall sp_check_plan (wCons (wV 0) (wCons (wV 1) wNil))))
    (wRet (wIx (wCall sp_gone_through (wCons (wV 0) (wCons (wV 1) wNil))) (wC (.int 1)))))
theorem at_1 {x y : PyData} : atD [x, y] 1 = some y := rfl
theorem at_0 {x y : PyData} : atD [x, y] 0 = some x := rfl
theorem pure_judge : Pure 2 2 sp_judge w_judge := by
  rintro ds A B - ⟨h, p, rfl, oh, op, hl, hA⟩
  simp only [w_judge, bl?, g2, gAdd, gDiv, gEq, gGe, gGt, gI, gIn, gInt, gIs, gIsNot, gLe, gLen, gList, gLt, gMM, gMod, gMul, gMulS, gNe, gNotIn, gPow, gSorted, gSub, gIadd, gSum, gTuple, puts, sV, sVs, slotM, wAnd, wApp, wAsg, wAug, wAugI, wB, wC, wCall, wCallR, wChain, wCons, wDraw, wDrop, wEnL, wEnT, wExt, wFn, wFnO, wFor, wGCons, wGNil, wGT, wIL, wIT, wIdx, wIf, wIfS, wIsi, wIx, wLc, wLst, wMNil, wMO, wMV, wMix, wN, wNeg, wNil, wNot, wNotT, wO, wOp, wOr, wOwn, wPar, wR1, wR2, wRaise, wRaiseF, wRet, wSeq, wSet, wSetI, wSkip, wTAnd, wTNot, wTOr, wTru, wTry, wTryF, wTup, wV, wYes, wSplit, wJoin, wRstrip, wFmt, wJNil, wJCons, wJs, gStr, gIntS, wIS, gSignNotIn, wSl, wSlt, wPn, wPs, gMulT, wGL, wTryAs, wXf, wXis, wCat, wCatV, wIxV, startS, List.length_cons, List.length_nil, List.map_cons, List.map_nil, List.getElem?_cons_zero, List.getElem?_cons_succ, List.set_cons_zero, List.set_cons_succ, List.cons_append, List.nil_append, List.append_nil, List.replicate_succ, List.replicate_zero, Nat.reduceAdd, Nat.reduceSub, ↓reduceIte, Bool.false_eq_true, reduceCtorEq, true_and, and_true, true_or, or_true, false_or, or_false, Bool.not_true, Bool.not_false, Bool.true_and, Bool.false_and, Bool.and_true, decide_eq_true_eq, Bool.not_eq_eq_eq_not, exists_eq_left, exists_eq_left', Option.some.injEq]
  refine ⟨h, p, rfl, oh, op, hl, h, p, rfl, op.inP, ?_⟩
  simp only [at_1, startS, List.length_cons, List.length_nil, List.map_cons, List.map_nil, List.getElem?_cons_zero, List.getElem?_cons_succ, List.set_cons_zero, List.set_cons_succ, List.cons_append, List.nil_append, List.append_nil, List.replicate_succ, List.replicate_zero, Nat.reduceAdd, Nat.reduceSub, ↓reduceIte, Bool.false_eq_true, reduceCtorEq, true_and, and_true, true_or, or_true, false_or, or_false, Bool.not_true, Bool.not_false, Bool.true_and, Bool.false_and, Bool.and_true, decide_eq_true_eq, Bool.not_eq_eq_eq_not, exists_eq_left, exists_eq_left', Option.some.injEq]
  exact hA
def sp_made : Spc := fun ds A B => ∃ h p, ds = [eH h, eL p] ∧ OkH h ∧ OkP h.length p ∧ p.length ≤ 20000 ∧ ((goneF h p 0).2 = none → A (eH (goneF h p 0).1)) ∧ ∀ k, (goneF h p 0).2 = some k → B ("BadPlan", [("index", .int (k : Int))])

def w_made : WS :=
    (wSeq (wDrop (wCall sp_check_plan (wCons (wV 0) (wCons (wV 1) wNil))))
    (wSeq (wAsg (wCall sp_gone_through (wCons (wV 0) (wCons (wV 1) wNil))) (wGT 2 (wGCons (wN 2) (wGCons (wN 3) wGNil))))
    (wSeq (wIfS (wB (wOp gIsNot (wV 3) (wC .none))) (wRaiseF "BadPlan" ["index"] (wCons (wV 3) wNil)) wSkip)
    (wRet (wV 2)))))
theorem pure_made : Pure 4 2 sp_made w_made := by
  rintro ds A B - ⟨h, p, rfl, oh, op, hl, hA, hB⟩
  simp only [w_made, bl?, g2, gAdd, gDiv, gEq, gGe, gGt, gI, gIn, gInt, gIs, gIsNot, gLe, gLen, gList, gLt, gMM, gMod, gMul, gMulS, gNe, gNotIn, gPow, gSorted, gSub, gIadd, gSum, gTuple, puts, sV, sVs, slotM, wAnd, wApp, wAsg, wAug, wAugI, wB, wC, wCall, wCallR, wChain, wCons, wDraw, wDrop, wEnL, wEnT, wExt, wFn, wFnO, wFor, wGCons, wGNil, wGT, wIL, wIT, wIdx, wIf, wIfS, wIsi, wIx, wLc, wLst, wMNil, wMO, wMV, wMix, wN, wNeg, wNil, wNot, wNotT, wO, wOp, wOr, wOwn, wPar, wR1, wR2, wRaise, wRaiseF, wRet, wSeq, wSet, wSetI, wSkip, wTAnd, wTNot, wTOr, wTru, wTry, wTryF, wTup, wV, wYes, wSplit, wJoin, wRstrip, wFmt, wJNil, wJCons, wJs, gStr, gIntS, wIS, gSignNotIn, wSl, wSlt, wPn, wPs, gMulT, wGL, wTryAs, wXf, wXis, wCat, wCatV, wIxV, startS, List.length_cons, List.length_nil, List.map_cons, List.map_nil, List.getElem?_cons_zero, List.getElem?_cons_succ, List.set_cons_zero, List.set_cons_succ, List.cons_append, List.nil_append, List.append_nil, List.replicate_succ, List.replicate_zero, Nat.reduceAdd, Nat.reduceSub, ↓reduceIte, Bool.false_eq_true, reduceCtorEq, true_and, and_true, true_or, or_true, false_or, or_false, Bool.not_true, Bool.not_false, Bool.true_and, Bool.false_and, Bool.and_true, decide_eq_true_eq, Bool.not_eq_eq_eq_not, exists_eq_left, exists_eq_left', Option.some.injEq]
  refine ⟨h, p, rfl, oh, op, hl, h, p, rfl, op.inP, ?_⟩
  simp only [startS, List.length_cons, List.length_nil, List.map_cons, List.map_nil, List.getElem?_cons_zero, List.getElem?_cons_succ, List.set_cons_zero, List.set_cons_succ, List.cons_append, List.nil_append, List.append_nil, List.replicate_succ, List.replicate_zero, Nat.reduceAdd, Nat.reduceSub, ↓reduceIte, Bool.false_eq_true, reduceCtorEq, true_and, and_true, true_or, or_true, false_or, or_false, Bool.not_true, Bool.not_false, Bool.true_and, Bool.false_and, Bool.and_true, decide_eq_true_eq, Bool.not_eq_eq_eq_not, exists_eq_left, exists_eq_left', Option.some.injEq, flat_eH, flat_eO, bl?, g2, gAdd, gDiv, gEq, gGe, gGt, gI, gIn, gInt, gIs, gIsNot, gLe, gLen, gList, gLt, gMM, gMod, gMul, gMulS, gNe, gNotIn, gPow, gSorted, gSub, gIadd, gSum, gTuple, puts, sV, sVs, slotM, wAnd, wApp, wAsg, wAug, wAugI, wB, wC, wCall, wCallR, wChain, wCons, wDraw, wDrop, wEnL, wEnT, wExt, wFn, wFnO, wFor, wGCons, wGNil, wGT, wIL, wIT, wIdx, wIf, wIfS, wIsi, wIx, wLc, wLst, wMNil, wMO, wMV, wMix, wN, wNeg, wNil, wNot, wNotT, wO, wOp, wOr, wOwn, wPar, wR1, wR2, wRaise, wRaiseF, wRet, wSeq, wSet, wSetI, wSkip, wTAnd, wTNot, wTOr, wTru, wTry, wTryF, wTup, wV, wYes, wSplit, wJoin, wRstrip, wFmt, wJNil, wJCons, wJs, gStr, gIntS, wIS, gSignNotIn, wSl, wSlt, wPn, wPs, gMulT, wGL, wTryAs, wXf, wXis, wCat, wCatV, wIxV]
  cases e : (goneF h p 0).2 with
  | none =>
    simp only [eO, bl?, g2, gAdd, gDiv, gEq, gGe, gGt, gI, gIn, gInt, gIs, gIsNot, gLe, gLen, gList, gLt, gMM, gMod, gMul, gMulS, gNe, gNotIn, gPow, gSorted, gSub, gIadd, gSum, gTuple, puts, sV, sVs, slotM, wAnd, wApp, wAsg, wAug, wAugI, wB, wC, wCall, wCallR, wChain, wCons, wDraw, wDrop, wEnL, wEnT, wExt, wFn, wFnO, wFor, wGCons, wGNil, wGT, wIL, wIT, wIdx, wIf, wIfS, wIsi, wIx, wLc, wLst, wMNil, wMO, wMV, wMix, wN, wNeg, wNil, wNot, wNotT, wO, wOp, wOr, wOwn, wPar, wR1, wR2, wRaise, wRaiseF, wRet, wSeq, wSet, wSetI, wSkip, wTAnd, wTNot, wTOr, wTru, wTry, wTryF, wTup, wV, wYes, wSplit, wJoin, wRstrip, wFmt, wJNil, wJCons, wJs, gStr, gIntS, wIS, gSignNotIn, wSl, wSlt, wPn, wPs, gMulT, wGL, wTryAs, wXf, wXis, wCat, wCatV, wIxV, startS, List.length_cons, List.length_nil, List.map_cons, List.map_nil, List.getElem?_cons_zero, List.getElem?_cons_succ, List.set_cons_zero, List.set_cons_succ, List.cons_append, List.nil_append, List.append_nil, List.replicate_succ, List.replicate_zero, Nat.reduceAdd, Nat.reduceSub, ↓reduceIte, Bool.false_eq_true, reduceCtorEq, true_and, and_true, true_or, or_true, false_or, or_false, Bool.not_true, Bool.not_false, Bool.true_and, Bool.false_and, Bool.and_true, decide_eq_true_eq, Bool.not_eq_eq_eq_not, exists_eq_left, exists_eq_left', Option.some.injEq]
    exact hA e
  | some k =>
    simp only [eO, bl?, g2, gAdd, gDiv, gEq, gGe, gGt, gI, gIn, gInt, gIs, gIsNot, gLe, gLen, gList, gLt, gMM, gMod, gMul, gMulS, gNe, gNotIn, gPow, gSorted, gSub, gIadd, gSum, gTuple, puts, sV, sVs, slotM, wAnd, wApp, wAsg, wAug, wAugI, wB, wC, wCall, wCallR, wChain, wCons, wDraw, wDrop, wEnL, wEnT, wExt, wFn, wFnO, wFor, wGCons, wGNil, wGT, wIL, wIT, wIdx, wIf, wIfS, wIsi, wIx, wLc, wLst, wMNil, wMO, wMV, wMix, wN, wNeg, wNil, wNot, wNotT, wO, wOp, wOr, wOwn, wPar, wR1, wR2, wRaise, wRaiseF, wRet, wSeq, wSet, wSetI, wSkip, wTAnd, wTNot, wTOr, wTru, wTry, wTryF, wTup, wV, wYes, wSplit, wJoin, wRstrip, wFmt, wJNil, wJCons, wJs, gStr, gIntS, wIS, gSignNotIn, wSl, wSlt, wPn, wPs, gMulT, wGL, wTryAs, wXf, wXis, wCat, wCatV, wIxV, startS, List.length_cons, List.length_nil, List.map_cons, List.map_nil, List.getElem?_cons_zero, List.getElem?_cons_succ, List.set_cons_zero, List.set_cons_succ, List.cons_append, List.nil_append, List.append_nil, List.replicate_succ, List.replicate_zero, Nat.reduceAdd, Nat.reduceSub, ↓reduceIte, Bool.false_eq_true, reduceCtorEq, true_and, and_true, true_or, or_true, false_or, or_false, Bool.not_true, Bool.not_false, Bool.true_and, Bool.false_and, Bool.and_true, decide_eq_true_eq, Bool.not_eq_eq_eq_not, exists_eq_left, exists_eq_left', Option.some.injEq]
    exact hB k e

/-! ### the law's own defs -/
def sp_law_can : Spc := sp_can_be_made

def w_law_can : WS :=
    (wRet (wChain gLt gLe (wC (.int 0)) (wIx (wV 0) (wIx (wV 1) (wC (.int 1)))) (wIx (wV 0) (wIx (wV 1) (wC (.int 0))))))
theorem pure_law_can : Pure 2 2 sp_law_can w_law_can := by
  rintro ds A B - ⟨h, ⟨i, j⟩, rfl, hi, hj, hA⟩
  have hi : i < h.length := hi
  have hj : j < h.length := hj
  simp only [w_law_can, bl?, g2, gAdd, gDiv, gEq, gGe, gGt, gI, gIn, gInt, gIs, gIsNot, gLe, gLen, gList, gLt, gMM, gMod, gMul, gMulS, gNe, gNotIn, gPow, gSorted, gSub, gIadd, gSum, gTuple, puts, sV, sVs, slotM, wAnd, wApp, wAsg, wAug, wAugI, wB, wC, wCall, wCallR, wChain, wCons, wDraw, wDrop, wEnL, wEnT, wExt, wFn, wFnO, wFor, wGCons, wGNil, wGT, wIL, wIT, wIdx, wIf, wIfS, wIsi, wIx, wLc, wLst, wMNil, wMO, wMV, wMix, wN, wNeg, wNil, wNot, wNotT, wO, wOp, wOr, wOwn, wPar, wR1, wR2, wRaise, wRaiseF, wRet, wSeq, wSet, wSetI, wSkip, wTAnd, wTNot, wTOr, wTru, wTry, wTryF, wTup, wV, wYes, wSplit, wJoin, wRstrip, wFmt, wJNil, wJCons, wJs, gStr, gIntS, wIS, gSignNotIn, wSl, wSlt, wPn, wPs, gMulT, wGL, wTryAs, wXf, wXis, wCat, wCatV, wIxV, startS, List.length_cons, List.length_nil, List.map_cons, List.map_nil, List.getElem?_cons_zero, List.getElem?_cons_succ, List.set_cons_zero, List.set_cons_succ, List.cons_append, List.nil_append, List.append_nil, List.replicate_succ, List.replicate_zero, Nat.reduceAdd, Nat.reduceSub, ↓reduceIte, Bool.false_eq_true, reduceCtorEq, true_and, and_true, true_or, or_true, false_or, or_false, Bool.not_true, Bool.not_false, Bool.true_and, Bool.false_and, Bool.and_true, decide_eq_true_eq, Bool.not_eq_eq_eq_not, exists_eq_left, exists_eq_left', Option.some.injEq, eH, eP, at_0, at_1, at_gt hi, at_gt hj, flat_int]
  exact if_dec (A := fun b => A (.bool b)) hA
def sp_law_behind : Spc := sp_behind

def w_law_behind : WS :=
    (wSeq (wOwn 2 (wFnO gList (wCons (wV 0) wNil)))
    (wSeq (wSetI 2 (wOp gSub (wIx (wV 2) (wIx (wV 1) (wC (.int 0)))) (wIx (wV 0) (wIx (wV 1) (wC (.int 1))))) (wIx (wV 1) (wC (.int 0))))
    (wSeq (wSetI 2 (wOp gAdd (wIx (wV 2) (wIx (wV 1) (wC (.int 1)))) (wIx (wV 0) (wIx (wV 1) (wC (.int 1))))) (wIx (wV 1) (wC (.int 1))))
    (wRet (wFn gTuple (wCons (wV 2) wNil))))))
theorem pure_law_behind : Pure 3 2 sp_law_behind w_law_behind := by
  rintro ds A B - ⟨h, ⟨i, j⟩, rfl, hi, hj, hA⟩
  have hi : i < h.length := hi
  have hj : j < h.length := hj
  have hj' : j < (h.set i (gt h i - gt h j)).length := by rw [List.length_set]; exact hj
  simp only [w_law_behind, bl?, g2, gAdd, gDiv, gEq, gGe, gGt, gI, gIn, gInt, gIs, gIsNot, gLe, gLen, gList, gLt, gMM, gMod, gMul, gMulS, gNe, gNotIn, gPow, gSorted, gSub, gIadd, gSum, gTuple, puts, sV, sVs, slotM, wAnd, wApp, wAsg, wAug, wAugI, wB, wC, wCall, wCallR, wChain, wCons, wDraw, wDrop, wEnL, wEnT, wExt, wFn, wFnO, wFor, wGCons, wGNil, wGT, wIL, wIT, wIdx, wIf, wIfS, wIsi, wIx, wLc, wLst, wMNil, wMO, wMV, wMix, wN, wNeg, wNil, wNot, wNotT, wO, wOp, wOr, wOwn, wPar, wR1, wR2, wRaise, wRaiseF, wRet, wSeq, wSet, wSetI, wSkip, wTAnd, wTNot, wTOr, wTru, wTry, wTryF, wTup, wV, wYes, wSplit, wJoin, wRstrip, wFmt, wJNil, wJCons, wJs, gStr, gIntS, wIS, gSignNotIn, wSl, wSlt, wPn, wPs, gMulT, wGL, wTryAs, wXf, wXis, wCat, wCatV, wIxV, startS, List.length_cons, List.length_nil, List.map_cons, List.map_nil, List.getElem?_cons_zero, List.getElem?_cons_succ, List.set_cons_zero, List.set_cons_succ, List.cons_append, List.nil_append, List.append_nil, List.replicate_succ, List.replicate_zero, Nat.reduceAdd, Nat.reduceSub, ↓reduceIte, Bool.false_eq_true, reduceCtorEq, true_and, and_true, true_or, or_true, false_or, or_false, Bool.not_true, Bool.not_false, Bool.true_and, Bool.false_and, Bool.and_true, decide_eq_true_eq, Bool.not_eq_eq_eq_not, exists_eq_left, exists_eq_left', Option.some.injEq, eH, eP, at_0, at_1, at_gt hi, at_gt hj, flat_int, flat_ints, List.length_map, ixN_nat hi, map_set_int, at_gt hj', ixN_nat hj', nat_le]
  exact ⟨⟨_, rfl⟩, ⟨_, rfl⟩, hA⟩
/-- all pairs of two different ones -/
def pairsOf (n : Nat) : List (Nat × Nat) := (List.range n).flatMap fun i => ((List.range n).filter fun j => decide (j ≠ i)).map fun j => (i, j)
theorem pairs_ok {n : Nat} : OkP n (pairsOf n) := fun s hs => by
  unfold pairsOf at hs
  obtain ⟨i, hi, hs⟩ := List.mem_flatMap.mp hs
  obtain ⟨j, hj, rfl⟩ := List.mem_map.mp hs
  obtain ⟨hj, hn⟩ := List.mem_filter.mp hj
  exact ⟨List.mem_range.mp hi, List.mem_range.mp hj, fun e => of_decide_eq_true hn e.symm⟩
theorem pairs_len : ∀ n, n ≤ 6 → (pairsOf n).length = n * (n - 1) := by decide
def sp_law_pairs : Spc := fun ds A _ => ∃ n : Nat, ds = [.int n] ∧ n ≤ 6 ∧ A (.list ((pairsOf n).map eP))

def w_law_pairs : WS :=
    (wSeq (wSet 1 (wO (wLst wNil)))
    (wSeq (wFor (wR1 (wCons (wV 0) wNil)) (wN 2) (wSet 1 (wOp gAdd (wV 1) (wO (wLc (wR1 (wCons (wV 0) wNil)) (wN 3) (wB (wOp gNe (wV 3) (wV 2))) (wTup (wCons (wV 2) (wCons (wV 3) wNil))) [3])))))
    (wRet (wV 1))))
def pairsTo (n k : Nat) : List (Nat × Nat) := (List.range k).flatMap fun i => ((List.range n).filter fun j => decide (j ≠ i)).map fun j => (i, j)
theorem pairsTo_succ (n k : Nat) : pairsTo n (k + 1) = pairsTo n k ++ ((List.range n).filter fun j => decide (j ≠ k)).map fun j => (k, j) := by
  unfold pairsTo
  rw [List.range_succ, List.flatMap_append]
  simp
theorem pairsTo_le (n : Nat) : ∀ k, (pairsTo n k).length ≤ n * k
  | 0 => by simp [pairsTo]
  | k + 1 => by
    have h1 := pairsTo_le n k
    have h2 := List.length_filter_le (fun j => decide (j ≠ k)) (List.range n)
    rw [List.length_range] at h2
    rw [pairsTo_succ, List.length_append, List.length_map, Nat.mul_succ]
    omega
theorem range_small {n : Nat} (h : n ≤ 6) : -(2 : Int) ^ 62 ≤ (n : Int) ∧ (n : Int) < 2 ^ 62 := by
  have : (2 : Int) ^ 62 = 4611686018427387904 := by decide
  omega
theorem pure_law_pairs : Pure 4 1 sp_law_pairs w_law_pairs := by
  rintro ds A B - ⟨n, rfl, hn, hA⟩
  simp only [w_law_pairs, bl?, g2, gAdd, gDiv, gEq, gGe, gGt, gI, gIn, gInt, gIs, gIsNot, gLe, gLen, gList, gLt, gMM, gMod, gMul, gMulS, gNe, gNotIn, gPow, gSorted, gSub, gIadd, gSum, gTuple, puts, sV, sVs, slotM, wAnd, wApp, wAsg, wAug, wAugI, wB, wC, wCall, wCallR, wChain, wCons, wDraw, wDrop, wEnL, wEnT, wExt, wFn, wFnO, wFor, wGCons, wGNil, wGT, wIL, wIT, wIdx, wIf, wIfS, wIsi, wIx, wLc, wLst, wMNil, wMO, wMV, wMix, wN, wNeg, wNil, wNot, wNotT, wO, wOp, wOr, wOwn, wPar, wR1, wR2, wRaise, wRaiseF, wRet, wSeq, wSet, wSetI, wSkip, wTAnd, wTNot, wTOr, wTru, wTry, wTryF, wTup, wV, wYes, wSplit, wJoin, wRstrip, wFmt, wJNil, wJCons, wJs, gStr, gIntS, wIS, gSignNotIn, wSl, wSlt, wPn, wPs, gMulT, wGL, wTryAs, wXf, wXis, wCat, wCatV, wIxV, startS, List.length_cons, List.length_nil, List.map_cons, List.map_nil, List.getElem?_cons_zero, List.getElem?_cons_succ, List.set_cons_zero, List.set_cons_succ, List.cons_append, List.nil_append, List.append_nil, List.replicate_succ, List.replicate_zero, Nat.reduceAdd, Nat.reduceSub, ↓reduceIte, Bool.false_eq_true, reduceCtorEq, true_and, and_true, true_or, or_true, false_or, or_false, Bool.not_true, Bool.not_false, Bool.true_and, Bool.false_and, Bool.and_true, decide_eq_true_eq, Bool.not_eq_eq_eq_not, exists_eq_left, exists_eq_left', Option.some.injEq]
  refine ⟨by decide, (range_small hn).1, (range_small hn).2, ?_⟩
  rw [rangeD0, Int.toNat_natCast]
  refine for_inv (fun r S => ∃ k s2 s3, k ≤ n ∧ r = ((List.range n).drop k).map (fun (i : Nat) => PyData.int (i : Int)) ∧ S = [.im (.int n), .im (.list ((pairsTo n k).map eP)), s2, s3] ∧ notRng (some s3) = true) _ _ ?_ ⟨0, .un, .un, Nat.zero_le _, by simp, by simp [pairsTo], rfl⟩ ?_
  · rintro d r S ⟨k, s2, s3, hk, er, rfl, hs3⟩ Nx hN
    have hk' : k < n := by
      rcases Nat.lt_or_ge k n with c | c
      · exact c
      · rw [List.drop_eq_nil_of_le (by rw [List.length_range]; exact c)] at er
        cases er
    rw [List.drop_eq_getElem_cons (by rw [List.length_range]; exact hk'), List.getElem_range, List.map_cons] at er
    cases er
    simp only [bl?, g2, gAdd, gDiv, gEq, gGe, gGt, gI, gIn, gInt, gIs, gIsNot, gLe, gLen, gList, gLt, gMM, gMod, gMul, gMulS, gNe, gNotIn, gPow, gSorted, gSub, gIadd, gSum, gTuple, puts, sV, sVs, slotM, wAnd, wApp, wAsg, wAug, wAugI, wB, wC, wCall, wCallR, wChain, wCons, wDraw, wDrop, wEnL, wEnT, wExt, wFn, wFnO, wFor, wGCons, wGNil, wGT, wIL, wIT, wIdx, wIf, wIfS, wIsi, wIx, wLc, wLst, wMNil, wMO, wMV, wMix, wN, wNeg, wNil, wNot, wNotT, wO, wOp, wOr, wOwn, wPar, wR1, wR2, wRaise, wRaiseF, wRet, wSeq, wSet, wSetI, wSkip, wTAnd, wTNot, wTOr, wTru, wTry, wTryF, wTup, wV, wYes, wSplit, wJoin, wRstrip, wFmt, wJNil, wJCons, wJs, gStr, gIntS, wIS, gSignNotIn, wSl, wSlt, wPn, wPs, gMulT, wGL, wTryAs, wXf, wXis, wCat, wCatV, wIxV, startS, List.length_cons, List.length_nil, List.map_cons, List.map_nil, List.getElem?_cons_zero, List.getElem?_cons_succ, List.set_cons_zero, List.set_cons_succ, List.cons_append, List.nil_append, List.append_nil, List.replicate_succ, List.replicate_zero, Nat.reduceAdd, Nat.reduceSub, ↓reduceIte, Bool.false_eq_true, reduceCtorEq, true_and, and_true, true_or, or_true, false_or, or_false, Bool.not_true, Bool.not_false, Bool.true_and, Bool.false_and, Bool.and_true, decide_eq_true_eq, Bool.not_eq_eq_eq_not, exists_eq_left, exists_eq_left', Option.some.injEq, flat_int, List.all_cons, List.all_nil, hs3]
    refine ⟨(range_small hn).1, (range_small hn).2, ?_⟩
    rw [rangeD0, Int.toNat_natCast]
    refine lc_ok (fun (i : Nat) => PyData.int (i : Int)) (fun j => decide (j ≠ k)) (fun j => eP (k, j)) (List.range n) [] True (fun j hj Yes No hy hno => ?_) (by rw [List.length_range]; simp; omega) trivial fun c' hc' => ?_
    · simp only [bl?, g2, gAdd, gDiv, gEq, gGe, gGt, gI, gIn, gInt, gIs, gIsNot, gLe, gLen, gList, gLt, gMM, gMod, gMul, gMulS, gNe, gNotIn, gPow, gSorted, gSub, gIadd, gSum, gTuple, puts, sV, sVs, slotM, wAnd, wApp, wAsg, wAug, wAugI, wB, wC, wCall, wCallR, wChain, wCons, wDraw, wDrop, wEnL, wEnT, wExt, wFn, wFnO, wFor, wGCons, wGNil, wGT, wIL, wIT, wIdx, wIf, wIfS, wIsi, wIx, wLc, wLst, wMNil, wMO, wMV, wMix, wN, wNeg, wNil, wNot, wNotT, wO, wOp, wOr, wOwn, wPar, wR1, wR2, wRaise, wRaiseF, wRet, wSeq, wSet, wSetI, wSkip, wTAnd, wTNot, wTOr, wTru, wTry, wTryF, wTup, wV, wYes, wSplit, wJoin, wRstrip, wFmt, wJNil, wJCons, wJs, gStr, gIntS, wIS, gSignNotIn, wSl, wSlt, wPn, wPs, gMulT, wGL, wTryAs, wXf, wXis, wCat, wCatV, wIxV, startS, List.length_cons, List.length_nil, List.map_cons, List.map_nil, List.getElem?_cons_zero, List.getElem?_cons_succ, List.set_cons_zero, List.set_cons_succ, List.cons_append, List.nil_append, List.append_nil, List.replicate_succ, List.replicate_zero, Nat.reduceAdd, Nat.reduceSub, ↓reduceIte, Bool.false_eq_true, reduceCtorEq, true_and, and_true, true_or, or_true, false_or, or_false, Bool.not_true, Bool.not_false, Bool.true_and, Bool.false_and, Bool.and_true, decide_eq_true_eq, Bool.not_eq_eq_eq_not, exists_eq_left, exists_eq_left', Option.some.injEq, wipeS, flat_int, shaped_int, eqv_int]
      by_cases c : j = k
      · subst c
        simpa using hno (by simp)
      · have c' : ¬ ((j : Int) = k) := by omega
        simp [c']
        exact ⟨by decide, hy (by simpa using c)⟩
    · have hlen : (pairsTo n k).length + ((List.range n).filter fun j => decide (j ≠ k)).length ≤ sizeLine := by
        have h1 := pairsTo_le n k
        have h2 := List.length_filter_le (fun j => decide (j ≠ k)) (List.range n)
        rw [List.length_range] at h2
        have h3 : n * k ≤ 6 * 6 := Nat.mul_le_mul hn (by omega)
        rw [sizeLine_eq]
        omega
      have hf : flats ([] ++ (List.filter (fun j => decide (j ≠ k)) (List.range n)).map fun j => eP (k, j)) = true := by
        rw [List.nil_append]
        exact flats_map (fun j => flat_eP _) _
      refine ⟨by simpa using hlen, .inl (.inr hf), hN _ ⟨k + 1, .im (.int (k : Int)), s3, hk', rfl, ?_, hs3⟩⟩
      rw [pairsTo_succ]
      simp [List.map_append, Function.comp_def]
  · rintro S ⟨k, s2, s3, hk, er, rfl, hs3⟩
    have hk' : k = n := by
      rcases Nat.lt_or_ge k n with c | c
      · rw [List.drop_eq_getElem_cons (by rw [List.length_range]; exact c)] at er
        cases er
      · omega
    subst hk'
    exact hA

/-! the heaps that are drawn -/
theorem lc_each {wg : WTg} {wt : WTx} {we : WEx} {c : Prop} {S : Slots} {K : List PyData → Prop → Prop} (Q : PyData → Prop) : ∀ (ds acc : List PyData) (ca : Prop),
    (∀ d ∈ ds, ∀ Yes : PyData → Prop → Prop, (∀ e, Q e → Yes e True) → ∀ No : Prop, wg d c S fun S1 => wt S1 (fun b S2 => S2 = S1 ∧ if b = true then we S1 (fun e ce S3 => S3 = S1 ∧ Yes e ce) noX else No) noX) →
    acc.length + ds.length ≤ 1000000 → ca → (∀ (zs : List PyData) (c' : Prop), zs.length = ds.length → (∀ z ∈ zs, Q z) → c' → K (acc ++ zs) c') → lcL wg wt we c S ds acc ca K
  | [], acc, ca, _, _, hc, hK => by
    have q := hK [] ca rfl (fun z h => by cases h) hc
    rw [List.append_nil] at q
    exact q
  | d :: ds, acc, ca, h, hl, hc, hK => by
    rw [List.length_cons] at hl
    show wg d c S fun S1 => wt S1 (fun b S2 => S2 = S1 ∧ if b = true then we S1 (fun e ce S3 => S3 = S1 ∧ acc.length < sizeLine ∧ lcL wg wt we c S ds (acc ++ [e]) (ca ∧ (ce ∨ flat e = true)) K) noX else lcL wg wt we c S ds acc ca K) noX
    refine h d List.mem_cons_self (fun e ce => acc.length < sizeLine ∧ lcL wg wt we c S ds (acc ++ [e]) (ca ∧ (ce ∨ flat e = true)) K) (fun e he => ⟨by rw [sizeLine_eq]; omega, ?_⟩) _
    refine lc_each Q ds _ _ (fun x hx => h x (List.mem_cons_of_mem _ hx)) (by rw [List.length_append]; show acc.length + 1 + ds.length ≤ _; omega) ⟨hc, .inl trivial⟩ fun zs c' hz hq hc' => ?_
    have q := hK (e :: zs) c' (by rw [List.length_cons, List.length_cons, hz]) (fun z hz => by
      rcases List.mem_cons.mp hz with k | k
      · rw [k]; exact he
      · exact hq z k) hc'
    rw [List.append_assoc]
    exact q
theorem ints_all : ∀ {zs : List PyData} {P : Int → Prop}, (∀ z ∈ zs, ∃ i, z = .int i ∧ P i) → ∃ ns : List Int, zs = ns.map .int ∧ ∀ n ∈ ns, P n
  | [], P, _ => ⟨[], rfl, fun n h => by cases h⟩
  | z :: zs, P, h => by
    obtain ⟨i, rfl, hi⟩ := h z List.mem_cons_self
    obtain ⟨ns, rfl, hn⟩ := ints_all (zs := zs) fun x hx => h x (List.mem_cons_of_mem _ hx)
    exact ⟨i :: ns, rfl, fun n hm => by
      rcases List.mem_cons.mp hm with k | k
      · rw [k]; exact hi
      · exact hn n k⟩
def sp_law_heaps : Spc := fun ds A _ => ∃ lo hi : Nat, ds = [.int lo, .int hi] ∧ 2 ≤ lo ∧ lo ≤ hi ∧ hi ≤ 6 ∧ ∀ h, OkH h → lo ≤ h.length → h.length ≤ hi → A (eH h)

def w_law_heaps : WS :=
    (wSeq (wSet 3 (wOp gAdd (wV 1) (wDraw 0 (wOp gAdd (wOp gSub (wV 2) (wV 1)) (wC (.int 1))))))
    (wSeq (wSet 4 (wIx (wO (wLst (wCons (wC (.int 4)) (wCons (wC (.int 9)) (wCons (wC (.int 60)) (wCons (wOp gPow (wC (.int 10)) (wC (.int 15))) (wCons (wOp gPow (wC (.int 10)) (wC (.int 29))) wNil))))))) (wDraw 0 (wC (.int 5)))))
    (wSeq (wSet 5 (wIx (wO (wLst (wCons (wC (.int 1)) (wCons (wC (.int 1)) (wCons (wC (.int 2)) (wCons (wC (.int 3)) (wCons (wC (.int 8)) wNil))))))) (wDraw 0 (wC (.int 5)))))
    (wSeq (wOwn 6 (wLc (wR1 (wCons (wV 3) wNil)) (wN 7) wYes (wOp gMul (wV 5) (wDraw 0 (wV 4))) [7]))
    (wSeq (wIfS (wB (wOp gEq (wFn (gMM max) (wCons (wV 6) wNil)) (wC (.int 0)))) (wSetI 6 (wV 5) (wDraw 0 (wV 3))) wSkip)
    (wRet (wFn gTuple (wCons (wV 6) wNil))))))))
theorem atD_nat {xs : List PyData} {i : Nat} {d : PyData} (h : xs[i]? = some d) : atD xs (i : Int) = some d := by
  unfold atD ixN
  have hi := (List.getElem?_eq_some_iff.mp h).1
  rw [if_pos (by omega), if_pos (by omega)]
  show xs[(i : Int).toNat]? = some d
  rw [Int.toNat_natCast]
  exact h
theorem far_of {r : Int} (h0 : 0 ≤ r) (h5 : r < 5) : ∃ z : Int, atD [.int 4, .int 9, .int 60, .int ((10 : Int) ^ (15 : Int).toNat), .int ((10 : Int) ^ (29 : Int).toNat)] r = some (.int z) ∧ 1 ≤ z ∧ z ≤ 100000000000000000000000000000 := by
  have e : r = 0 ∨ r = 1 ∨ r = 2 ∨ r = 3 ∨ r = 4 := by omega
  rcases e with e | e | e | e | e <;> subst e <;> exact ⟨_, rfl, by decide, by decide⟩
theorem part_of {r : Int} (h0 : 0 ≤ r) (h5 : r < 5) : ∃ z : Int, atD [.int 1, .int 1, .int 2, .int 3, .int 8] r = some (.int z) ∧ 1 ≤ z ∧ z ≤ 8 := by
  have e : r = 0 ∨ r = 1 ∨ r = 2 ∨ r = 3 ∨ r = 4 := by omega
  rcases e with e | e | e | e | e <;> subst e <;> exact ⟨_, rfl, by decide, by decide⟩
theorem mul_small {i j : Int} (h1 : 0 ≤ i) (h2 : i ≤ 8) (h3 : 0 ≤ j) (h4 : j ≤ 100000000000000000000000000000) : CMulW i j := by
  refine wide_mul (a := 10) (b := 110) ?_ ?_ (by decide) (by decide) (by decide)
  · have : (2 : Nat) ^ 10 = 1024 := by decide
    omega
  · have : (2 : Nat) ^ 110 = 1298074214633706907132624082305024 := by decide
    omega
theorem pure_law_heaps : PureR 7 2 sp_law_heaps w_law_heaps := by
  rintro ds A B a c - ⟨lo, hi, rfl, l2, llh, l6, hA⟩
  have e31 : (10 : Int) ^ 31 = 10000000000000000000000000000000 := by decide
  have p1 : CPow 10 15 := ⟨by decide, by decide, by decide⟩
  have p2 : CPow 10 29 := ⟨by decide, by decide, by decide⟩
  simp only [w_law_heaps, bl?, g2, gAdd, gDiv, gEq, gGe, gGt, gI, gIn, gInt, gIs, gIsNot, gLe, gLen, gList, gLt, gMM, gMod, gMul, gMulS, gNe, gNotIn, gPow, gSorted, gSub, gIadd, gSum, gTuple, puts, sV, sVs, slotM, wAnd, wApp, wAsg, wAug, wAugI, wB, wC, wCall, wCallR, wChain, wCons, wDraw, wDrop, wEnL, wEnT, wExt, wFn, wFnO, wFor, wGCons, wGNil, wGT, wIL, wIT, wIdx, wIf, wIfS, wIsi, wIx, wLc, wLst, wMNil, wMO, wMV, wMix, wN, wNeg, wNil, wNot, wNotT, wO, wOp, wOr, wOwn, wPar, wR1, wR2, wRaise, wRaiseF, wRet, wSeq, wSet, wSetI, wSkip, wTAnd, wTNot, wTOr, wTru, wTry, wTryF, wTup, wV, wYes, wSplit, wJoin, wRstrip, wFmt, wJNil, wJCons, wJs, gStr, gIntS, wIS, gSignNotIn, wSl, wSlt, wPn, wPs, gMulT, wGL, wTryAs, wXf, wXis, wCat, wCatV, wIxV, startS, List.length_cons, List.length_nil, List.map_cons, List.map_nil, List.getElem?_cons_zero, List.getElem?_cons_succ, List.set_cons_zero, List.set_cons_succ, List.cons_append, List.nil_append, List.append_nil, List.replicate_succ, List.replicate_zero, Nat.reduceAdd, Nat.reduceSub, ↓reduceIte, Bool.false_eq_true, reduceCtorEq, true_and, and_true, true_or, or_true, false_or, or_false, Bool.not_true, Bool.not_false, Bool.true_and, Bool.false_and, Bool.and_true, decide_eq_true_eq, Bool.not_eq_eq_eq_not, exists_eq_left, exists_eq_left', Option.some.injEq]
  refine ⟨a, c, rfl, rfl, by omega, by rw [e31]; omega, fun r r0 r1 => ?_⟩
  obtain ⟨n, hn⟩ : ∃ n : Nat, (lo : Int) + r = n := ⟨((lo : Int) + r).toNat, by omega⟩
  simp only [hn]
  have n2 : lo ≤ n := by omega
  have n6 : n ≤ hi := by omega
  refine ⟨p1, p2, by decide, a, c, rfl, rfl, by decide, by rw [e31]; decide, fun r r0 r1 => ?_⟩
  obtain ⟨far, ef, f1, f2⟩ := far_of r0 r1
  simp only [ef, startS, List.length_cons, List.length_nil, List.map_cons, List.map_nil, List.getElem?_cons_zero, List.getElem?_cons_succ, List.set_cons_zero, List.set_cons_succ, List.cons_append, List.nil_append, List.append_nil, List.replicate_succ, List.replicate_zero, Nat.reduceAdd, Nat.reduceSub, ↓reduceIte, Bool.false_eq_true, reduceCtorEq, true_and, and_true, true_or, or_true, false_or, or_false, Bool.not_true, Bool.not_false, Bool.true_and, Bool.false_and, Bool.and_true, decide_eq_true_eq, Bool.not_eq_eq_eq_not, exists_eq_left, exists_eq_left', Option.some.injEq, flat_int]
  refine ⟨by decide, a, c, rfl, rfl, by decide, by rw [e31]; decide, fun r r0 r1 => ?_⟩
  obtain ⟨part, ep, g1, g2⟩ := part_of r0 r1
  simp only [ep, startS, List.length_cons, List.length_nil, List.map_cons, List.map_nil, List.getElem?_cons_zero, List.getElem?_cons_succ, List.set_cons_zero, List.set_cons_succ, List.cons_append, List.nil_append, List.append_nil, List.replicate_succ, List.replicate_zero, Nat.reduceAdd, Nat.reduceSub, ↓reduceIte, Bool.false_eq_true, reduceCtorEq, true_and, and_true, true_or, or_true, false_or, or_false, Bool.not_true, Bool.not_false, Bool.true_and, Bool.false_and, Bool.and_true, decide_eq_true_eq, Bool.not_eq_eq_eq_not, exists_eq_left, exists_eq_left', Option.some.injEq, flat_int]
  refine ⟨(range_small (by omega)).1, (range_small (by omega)).2, by simp [notRng, isMut], ?_⟩
  rw [rangeD0, Int.toNat_natCast]
  refine lc_each (fun d => ∃ i, d = .int i ∧ 0 ≤ i ∧ i ≤ 8 * 100000000000000000000000000000) _ [] True (fun d hd Yes hy No => ?_) (by simp; omega) trivial fun zs c' hz hq hc' => ?_
  · obtain ⟨i, _, rfl⟩ := List.mem_map.mp hd
    simp only [bl?, g2, gAdd, gDiv, gEq, gGe, gGt, gI, gIn, gInt, gIs, gIsNot, gLe, gLen, gList, gLt, gMM, gMod, gMul, gMulS, gNe, gNotIn, gPow, gSorted, gSub, gIadd, gSum, gTuple, puts, sV, sVs, slotM, wAnd, wApp, wAsg, wAug, wAugI, wB, wC, wCall, wCallR, wChain, wCons, wDraw, wDrop, wEnL, wEnT, wExt, wFn, wFnO, wFor, wGCons, wGNil, wGT, wIL, wIT, wIdx, wIf, wIfS, wIsi, wIx, wLc, wLst, wMNil, wMO, wMV, wMix, wN, wNeg, wNil, wNot, wNotT, wO, wOp, wOr, wOwn, wPar, wR1, wR2, wRaise, wRaiseF, wRet, wSeq, wSet, wSetI, wSkip, wTAnd, wTNot, wTOr, wTru, wTry, wTryF, wTup, wV, wYes, wSplit, wJoin, wRstrip, wFmt, wJNil, wJCons, wJs, gStr, gIntS, wIS, gSignNotIn, wSl, wSlt, wPn, wPs, gMulT, wGL, wTryAs, wXf, wXis, wCat, wCatV, wIxV, startS, List.length_cons, List.length_nil, List.map_cons, List.map_nil, List.getElem?_cons_zero, List.getElem?_cons_succ, List.set_cons_zero, List.set_cons_succ, List.cons_append, List.nil_append, List.append_nil, List.replicate_succ, List.replicate_zero, Nat.reduceAdd, Nat.reduceSub, ↓reduceIte, Bool.false_eq_true, reduceCtorEq, true_and, and_true, true_or, or_true, false_or, or_false, Bool.not_true, Bool.not_false, Bool.true_and, Bool.false_and, Bool.and_true, decide_eq_true_eq, Bool.not_eq_eq_eq_not, exists_eq_left, exists_eq_left', Option.some.injEq, wipeS, flat_int]
    refine ⟨a, c, rfl, rfl, f1, by rw [e31]; omega, fun r r0 r1 => ⟨mul_small (by omega) g2 r0 (by omega), hy _ ⟨_, rfl, Int.mul_nonneg (by omega) r0, Int.mul_le_mul g2 (by omega) r0 (by omega)⟩⟩⟩
  · obtain ⟨ns, rfl, hns⟩ := ints_all hq
    rw [List.nil_append]
    rw [List.length_map, List.length_map, List.length_range] at hz
    have hne : ∃ x xs, ns = x :: xs := by
      cases ns with
      | nil => simp at hz; omega
      | cons x xs => exact ⟨x, xs, rfl⟩
    obtain ⟨x, xs, ens⟩ := hne
    simp only [bl?, g2, gAdd, gDiv, gEq, gGe, gGt, gI, gIn, gInt, gIs, gIsNot, gLe, gLen, gList, gLt, gMM, gMod, gMul, gMulS, gNe, gNotIn, gPow, gSorted, gSub, gIadd, gSum, gTuple, puts, sV, sVs, slotM, wAnd, wApp, wAsg, wAug, wAugI, wB, wC, wCall, wCallR, wChain, wCons, wDraw, wDrop, wEnL, wEnT, wExt, wFn, wFnO, wFor, wGCons, wGNil, wGT, wIL, wIT, wIdx, wIf, wIfS, wIsi, wIx, wLc, wLst, wMNil, wMO, wMV, wMix, wN, wNeg, wNil, wNot, wNotT, wO, wOp, wOr, wOwn, wPar, wR1, wR2, wRaise, wRaiseF, wRet, wSeq, wSet, wSetI, wSkip, wTAnd, wTNot, wTOr, wTru, wTry, wTryF, wTup, wV, wYes, wSplit, wJoin, wRstrip, wFmt, wJNil, wJCons, wJs, gStr, gIntS, wIS, gSignNotIn, wSl, wSlt, wPn, wPs, gMulT, wGL, wTryAs, wXf, wXis, wCat, wCatV, wIxV, startS, List.length_cons, List.length_nil, List.map_cons, List.map_nil, List.getElem?_cons_zero, List.getElem?_cons_succ, List.set_cons_zero, List.set_cons_succ, List.cons_append, List.nil_append, List.append_nil, List.replicate_succ, List.replicate_zero, Nat.reduceAdd, Nat.reduceSub, ↓reduceIte, Bool.false_eq_true, reduceCtorEq, true_and, and_true, true_or, or_true, false_or, or_false, Bool.not_true, Bool.not_false, Bool.true_and, Bool.false_and, Bool.and_true, decide_eq_true_eq, Bool.not_eq_eq_eq_not, exists_eq_left, exists_eq_left', Option.some.injEq, flat_ints]
    refine ⟨x, xs, by rw [ens]; exact ints?_map (x :: xs), shaped_int _, shaped_int _, ?_⟩
    rw [eqv_int]
    obtain ⟨g1', g2'⟩ := fold_max_ge xs x
    have hm : ∀ y ∈ ns, y ≤ xs.foldl max x := fun y hy => by
      rw [ens] at hy
      rcases List.mem_cons.mp hy with z | z
      · rw [z]; exact g1'
      · exact g2' y z
    by_cases c0 : xs.foldl max x = 0
    · rw [if_pos (decide_eq_true c0)]
      refine ⟨⟨_, rfl⟩, a, c, rfl, rfl, by omega, by rw [e31]; omega, fun r r0 r1 => ?_⟩
      obtain ⟨j, rfl⟩ := Int.eq_ofNat_of_zero_le r0
      have hj : j < ns.length := by omega
      simp only [startS, List.length_cons, List.length_nil, List.map_cons, List.map_nil, List.getElem?_cons_zero, List.getElem?_cons_succ, List.set_cons_zero, List.set_cons_succ, List.cons_append, List.nil_append, List.append_nil, List.replicate_succ, List.replicate_zero, Nat.reduceAdd, Nat.reduceSub, ↓reduceIte, Bool.false_eq_true, reduceCtorEq, true_and, and_true, true_or, or_true, false_or, or_false, Bool.not_true, Bool.not_false, Bool.true_and, Bool.false_and, Bool.and_true, decide_eq_true_eq, Bool.not_eq_eq_eq_not, exists_eq_left, exists_eq_left', Option.some.injEq, List.length_map]
      refine ⟨j, by exact ixN_nat hj, ?_⟩
      rw [map_set_int]
      refine (hA _ ⟨by rw [List.length_set]; omega, by rw [List.length_set]; omega, fun y hy => ?_, part, List.mem_set hj _, by omega⟩ (by rw [List.length_set]; omega) (by rw [List.length_set]; omega))
      rcases List.mem_or_eq_of_mem_set hy with z | z
      · have := hns y z; have : big = 1000000000000000000000000000000 := rfl; omega
      · have : big = 1000000000000000000000000000000 := rfl; omega
    · rw [if_neg (by simpa using c0)]
      refine (hA _ ⟨by omega, by omega, fun y hy => by have := hns y hy; have : big = 1000000000000000000000000000000 := rfl; omega, xs.foldl max x, ?_, c0⟩ (by omega) (by omega))
      rw [ens]
      rcases fold_max_in xs x with q | q
      · rw [q]; exact List.mem_cons_self
      · exact List.mem_cons_of_mem _ q
end Pu


namespace Pu
open PySem L2 TL
/-! ### texts.py -/
def eW (w : List Nat) : PyData := .str (mkS w)
def eR (ws : List (List Nat)) : PyData := .list (ws.map eW)
theorem flat_eW (w : List Nat) : flat (eW w) = true := rfl
theorem flats_eW (ws : List (List Nat)) : flats (ws.map eW) = true := flats_map flat_eW ws
def asT (l : List Nat) : Prop := ∀ c ∈ l, c < 0x110000
theorem lay_eW {w : List Nat} (h : asT w) : (eW w).canLay0 = true := by
  show PyData.canLay0 (.str (mkS w)) = true
  rw [PyData.canLay0]
  unfold PyData.strOk mkS
  rw [List.all_toArray, List.all_eq_true]
  exact fun c hc => decide_eq_true (h c hc)
theorem shaped_eW {w : List Nat} (h : asT w) : SeqAt.shaped (eW w) = true := shaped_of (lay_eW h) (by simp [eW, PyData.depth])
theorem lay_eWs : ∀ {ws : List (List Nat)}, (∀ w ∈ ws, asT w) → PyData.canLayAll0 (ws.map eW) = true
  | [], _ => rfl
  | w :: r, h => by
    show PyData.canLayAll0 (eW w :: r.map eW) = true
    rw [PyData.canLayAll0, lay_eWs (fun x hx => h x (List.mem_cons_of_mem _ hx)), lay_eW (h w List.mem_cons_self)]
    rfl
theorem shaped_eR {ws : List (List Nat)} (h : ∀ w ∈ ws, asT w) : SeqAt.shaped (eR ws) = true := by
  refine shaped_of ?_ ?_
  · show PyData.canLay0 (.list _) = true
    rw [PyData.canLay0]
    exact lay_eWs h
  · show PyData.depth (.list _) ≤ 64
    rw [PyData.depth]
    have := depthAll_map (f := eW) (n := 0) (fun w => by simp [eW, PyData.depth]) ws
    omega
theorem asT_small {w : List Nat} (h : ∀ c ∈ w, c < 128) : asT w := fun c hc => by have := h c hc; omega
theorem eqv_str (x y : Str) : PyData.eqv (.str x) (.str y) = decide (x = y) := by
  rw [PyData.eqv]
  exact Bool.beq_eq_decide_eq x y
theorem eqv_eW (a b : List Nat) : PyData.eqv (eW a) (eW b) = decide (a = b) := by
  unfold eW
  rw [eqv_str]
  by_cases e : a = b
  · simp [e]
  · have : mkS a ≠ mkS b := fun z => e (mkS_inj z)
    simp [e, this]
theorem len_mkS (w : List Nat) : (mkS w).length = w.length := by rw [len_tl, tl_mkS]
abbrev big6 : Nat := 16777216
/-! one number -/
def digitsOk (l : List Nat) : Bool := l.all fun c => decide (48 ≤ c) && decide (c ≤ 57)
def fineW (w : List Nat) : Bool := decide (w.length ≤ 31) && (decide (w.head? ≠ some 48) || decide (w = [48])) && digitsOk w
def valW (w : List Nat) : Nat := NumText.digitsVal w
def numW (w : List Nat) (most : Int) : Option Nat := if fineW w = true ∧ ¬ most < (valW w : Int) then some (valW w) else none
def numAt (ws : List (List Nat)) (p : Nat) (most : Int) : Option Nat := match ws[p]? with
  | none => none
  | some w => numW w most
def okWs (ws : List (List Nat)) : Prop := ∀ w ∈ ws, w ≠ [] ∧ w.length ≤ 1000000 ∧ asT w
def sp_number_at : Spc := fun ds A B => ∃ (ws : List (List Nat)) (line p : Nat) (most : Int), ds = [eR ws, .int line, .int p, .int most] ∧ okWs ws ∧ (∀ v, numAt ws p most = some v → A (.int (v : Nat))) ∧
  (numAt ws p most = none → B ("InvalidText", [("word", .int ((p + 1 : Nat) : Int)), ("line", .int (line : Nat))]))
theorem tl_digits : tl ("0123456789" : Str) = [48, 49, 50, 51, 52, 53, 54, 55, 56, 57] := by decide +kernel
theorem tl_zero : tl ("0" : Str) = [48] := by decide +kernel
theorem mk_zero : ("0" : Str) = mkS [48] := by rw [str_eq, tl_zero, tl_mkS]
theorem mem_digits (c : Nat) : decide (c ∈ tl ("0123456789" : Str)) = (decide (48 ≤ c) && decide (c ≤ 57)) := by
  rw [tl_digits, ← Bool.decide_and]
  refine decide_eq_decide.mpr ?_
  simp only [List.mem_cons, List.not_mem_nil, or_false]
  omega
def w_number_at_1 : WS :=
    (wIfS (wB (wOp gGe (wV 2) (wFn gLen (wCons (wV 0) wNil)))) (wRaiseF "InvalidText" ["line", "word"] (wCons (wV 1) (wCons (wOp gAdd (wV 2) (wC (.int 1))) wNil))) wSkip)
def w_number_at_2 : WS :=
    (wSet 4 (wIx (wV 0) (wV 2)))
def w_number_at_3 : WS :=
    (wSet 5 (wAnd (wOp gLe (wFn gLen (wCons (wV 4) wNil)) (wC (.int 31))) (wOr (wOp gNe (wIx (wV 4) (wC (.int 0))) (wC (.str "0"))) (wOp gEq (wV 4) (wC (.str "0"))))))
def w_number_at_4 : WS :=
    (wFor (wIS (wV 4)) (wN 6) (wIfS (wB (wOp gSignNotIn (wV 6) (wC (.str "0123456789")))) (wSet 5 (wC (.bool false))) wSkip))
def w_number_at_5 : WS :=
    (wIfS (wTOr (wTNot (wB (wV 5))) (wB (wOp gGt (wFn gIntS (wCons (wV 4) wNil)) (wV 3)))) (wRaiseF "InvalidText" ["line", "word"] (wCons (wV 1) (wCons (wOp gAdd (wV 2) (wC (.int 1))) wNil))) wSkip)
def w_number_at_6 : WS :=
    (wRet (wFn gIntS (wCons (wV 4) wNil)))
def w_number_at : WS :=
    (wSeq w_number_at_1
    (wSeq w_number_at_2
    (wSeq w_number_at_3
    (wSeq w_number_at_4
    (wSeq w_number_at_5
    w_number_at_6)))))
theorem numAt_oob {ws : List (List Nat)} {p : Nat} {most : Int} (h : ws.length ≤ p) : numAt ws p most = none := by
  unfold numAt
  rw [List.getElem?_eq_none h]
theorem pure_number_at : Pure 7 4 sp_number_at w_number_at := by
  rintro ds A B - ⟨ws, line, p, most, rfl, hw, hA, hB⟩
  simp only [w_number_at, w_number_at_1, w_number_at_2, w_number_at_3, bl?, g2, gAdd, gDiv, gEq, gGe, gGt, gI, gIn, gInt, gIs, gIsNot, gLe, gLen, gList, gLt, gMM, gMod, gMul, gMulS, gNe, gNotIn, gPow, gSorted, gSub, gIadd, gSum, gTuple, puts, sV, sVs, slotM, wAnd, wApp, wAsg, wAug, wAugI, wB, wC, wCall, wCallR, wChain, wCons, wDraw, wDrop, wEnL, wEnT, wExt, wFn, wFnO, wFor, wGCons, wGNil, wGT, wIL, wIT, wIdx, wIf, wIfS, wIsi, wIx, wLc, wLst, wMNil, wMO, wMV, wMix, wN, wNeg, wNil, wNot, wNotT, wO, wOp, wOr, wOwn, wPar, wR1, wR2, wRaise, wRaiseF, wRet, wSeq, wSet, wSetI, wSkip, wTAnd, wTNot, wTOr, wTru, wTry, wTryF, wTup, wV, wYes, wSplit, wJoin, wRstrip, wFmt, wJNil, wJCons, wJs, gStr, gIntS, wIS, gSignNotIn, wSl, wSlt, wPn, wPs, gMulT, wGL, wTryAs, wXf, wXis, wCat, wCatV, wIxV, startS, List.length_cons, List.length_nil, List.map_cons, List.map_nil, List.getElem?_cons_zero, List.getElem?_cons_succ, List.set_cons_zero, List.set_cons_succ, List.cons_append, List.nil_append, List.append_nil, List.replicate_succ, List.replicate_zero, Nat.reduceAdd, Nat.reduceSub, ↓reduceIte, Bool.false_eq_true, reduceCtorEq, true_and, and_true, true_or, or_true, false_or, or_false, Bool.not_true, Bool.not_false, Bool.true_and, Bool.false_and, Bool.and_true, decide_eq_true_eq, Bool.not_eq_eq_eq_not, exists_eq_left, exists_eq_left', Option.some.injEq, eR]
  by_cases c : ws.length ≤ p
  · have c' : (List.map eW ws).length ≤ p := by rw [List.length_map]; exact c
    simp only [List.length_map, Int.ofNat_le, c, decide_true, startS, List.length_cons, List.length_nil, List.map_cons, List.map_nil, List.getElem?_cons_zero, List.getElem?_cons_succ, List.set_cons_zero, List.set_cons_succ, List.cons_append, List.nil_append, List.append_nil, List.replicate_succ, List.replicate_zero, Nat.reduceAdd, Nat.reduceSub, ↓reduceIte, Bool.false_eq_true, reduceCtorEq, true_and, and_true, true_or, or_true, false_or, or_false, Bool.not_true, Bool.not_false, Bool.true_and, Bool.false_and, Bool.and_true, decide_eq_true_eq, Bool.not_eq_eq_eq_not, exists_eq_left, exists_eq_left', Option.some.injEq, bl?, g2, gAdd, gDiv, gEq, gGe, gGt, gI, gIn, gInt, gIs, gIsNot, gLe, gLen, gList, gLt, gMM, gMod, gMul, gMulS, gNe, gNotIn, gPow, gSorted, gSub, gIadd, gSum, gTuple, puts, sV, sVs, slotM, wAnd, wApp, wAsg, wAug, wAugI, wB, wC, wCall, wCallR, wChain, wCons, wDraw, wDrop, wEnL, wEnT, wExt, wFn, wFnO, wFor, wGCons, wGNil, wGT, wIL, wIT, wIdx, wIf, wIfS, wIsi, wIx, wLc, wLst, wMNil, wMO, wMV, wMix, wN, wNeg, wNil, wNot, wNotT, wO, wOp, wOr, wOwn, wPar, wR1, wR2, wRaise, wRaiseF, wRet, wSeq, wSet, wSetI, wSkip, wTAnd, wTNot, wTOr, wTru, wTry, wTryF, wTup, wV, wYes, wSplit, wJoin, wRstrip, wFmt, wJNil, wJCons, wJs, gStr, gIntS, wIS, gSignNotIn, wSl, wSlt, wPn, wPs, gMulT, wGL, wTryAs, wXf, wXis, wCat, wCatV, wIxV]
    exact hB (numAt_oob c)
  · have hp : p < ws.length := by omega
    have hget : ws[p]? = some ws[p] := List.getElem?_eq_getElem hp
    generalize ws[p] = w at hget
    have hmem : w ∈ ws := List.mem_of_getElem? hget
    obtain ⟨hne, hlen, hok⟩ := hw w hmem
    have hat : atD (List.map eW ws) (p : Int) = some (eW w) := atD_map hget
    have en : numAt ws p most = numW w most := by unfold numAt; rw [hget]
    rw [en] at hA hB
    simp only [List.length_map, Int.ofNat_le, c, decide_false, startS, List.length_cons, List.length_nil, List.map_cons, List.map_nil, List.getElem?_cons_zero, List.getElem?_cons_succ, List.set_cons_zero, List.set_cons_succ, List.cons_append, List.nil_append, List.append_nil, List.replicate_succ, List.replicate_zero, Nat.reduceAdd, Nat.reduceSub, ↓reduceIte, Bool.false_eq_true, reduceCtorEq, true_and, and_true, true_or, or_true, false_or, or_false, Bool.not_true, Bool.not_false, Bool.true_and, Bool.false_and, Bool.and_true, decide_eq_true_eq, Bool.not_eq_eq_eq_not, exists_eq_left, exists_eq_left', Option.some.injEq, bl?, g2, gAdd, gDiv, gEq, gGe, gGt, gI, gIn, gInt, gIs, gIsNot, gLe, gLen, gList, gLt, gMM, gMod, gMul, gMulS, gNe, gNotIn, gPow, gSorted, gSub, gIadd, gSum, gTuple, puts, sV, sVs, slotM, wAnd, wApp, wAsg, wAug, wAugI, wB, wC, wCall, wCallR, wChain, wCons, wDraw, wDrop, wEnL, wEnT, wExt, wFn, wFnO, wFor, wGCons, wGNil, wGT, wIL, wIT, wIdx, wIf, wIfS, wIsi, wIx, wLc, wLst, wMNil, wMO, wMV, wMix, wN, wNeg, wNil, wNot, wNotT, wO, wOp, wOr, wOwn, wPar, wR1, wR2, wRaise, wRaiseF, wRet, wSeq, wSet, wSetI, wSkip, wTAnd, wTNot, wTOr, wTru, wTry, wTryF, wTup, wV, wYes, wSplit, wJoin, wRstrip, wFmt, wJNil, wJCons, wJs, gStr, gIntS, wIS, gSignNotIn, wSl, wSlt, wPn, wPs, gMulT, wGL, wTryAs, wXf, wXis, wCat, wCatV, wIxV, hat, flat_eW, eW, len_mkS]
    have h63 : w.length ≤ sizeLine := by rw [sizeLine_eq]; omega
    obtain ⟨c0, r0, ew⟩ : ∃ c0 r0, w = c0 :: r0 := by
      cases w with
      | nil => exact absurd rfl hne
      | cons a b => exact ⟨a, b, rfl⟩
    have h0 : atI (tl (mkS w)) 0 = some c0 := by rw [tl_mkS, ew]; unfold atI ixN; rw [if_pos (by decide), if_pos (by simp)]; rfl
    have e48 : decide ((⟨#[c0]⟩ : Str) = "0") = decide (w.head? = some 48) := by
      rw [mk_zero, ew]
      refine decide_eq_decide.mpr ⟨fun z => ?_, fun z => ?_⟩
      · have : [c0] = [48] := mkS_inj z
        simp at this
        simp [this]
      · simp at z
        subst z
        rfl
    have ez : decide (mkS w = "0") = decide (w = [48]) := by
      rw [mk_zero]
      exact decide_eq_decide.mpr ⟨fun z => mkS_inj z, fun z => by rw [z]⟩
    have hdig : ∀ c, (!decide (c ∈ tl ("0123456789" : Str))) = !(decide (48 ≤ c) && decide (c ≤ 57)) := fun c => by rw [mem_digits]
    have hz : SeqAt.shaped (.str (mkS w)) = true := shaped_eW hok
    have hc0 : c0 < 0x110000 := hok c0 (by rw [ew]; exact List.mem_cons_self)
    have hs0 : SeqAt.shaped (.str (⟨#[c0]⟩ : Str)) = true := shaped_eW (w := [c0]) fun c hc => by rw [List.mem_singleton.mp hc]; exact hc0
    have hs1 : SeqAt.shaped (.str ("0" : Str)) = true := by rw [mk_zero]; exact shaped_eW (w := [48]) (fun c hc => by rw [List.mem_singleton.mp hc]; decide)
    simp only [h63, h0, hz, hs0, hs1, eqv_str, e48, ez, startS, List.length_cons, List.length_nil, List.map_cons, List.map_nil, List.getElem?_cons_zero, List.getElem?_cons_succ, List.set_cons_zero, List.set_cons_succ, List.cons_append, List.nil_append, List.append_nil, List.replicate_succ, List.replicate_zero, Nat.reduceAdd, Nat.reduceSub, ↓reduceIte, Bool.false_eq_true, reduceCtorEq, true_and, and_true, true_or, or_true, false_or, or_false, Bool.not_true, Bool.not_false, Bool.true_and, Bool.false_and, Bool.and_true, decide_eq_true_eq, Bool.not_eq_eq_eq_not, exists_eq_left, exists_eq_left', Option.some.injEq]
    -- what is left, the flag being known
    have rest : ∀ b0 : Bool, (b0 && digitsOk w) = fineW w → w_number_at_4 [.im (.list (List.map eW ws)), .im (.int line), .im (.int p), .im (.int most), .im (.str (mkS w)), .im (.bool b0), .un]
        { nx := fun S1 => w_number_at_5 S1 { nx := fun S2 => w_number_at_6 S2 { nx := fun _ => A .none, rt := fun d _ _ => A d, bk := fun _ => False, ct := fun _ => False, ex := fun x _ => B x }, rt := fun d _ _ => A d, bk := fun _ => False, ct := fun _ => False, ex := fun x _ => B x }, rt := fun d _ _ => A d, bk := fun _ => False, ct := fun _ => False, ex := fun x _ => B x } := fun b0 hb0 => by
      simp only [w_number_at_4, bl?, g2, gAdd, gDiv, gEq, gGe, gGt, gI, gIn, gInt, gIs, gIsNot, gLe, gLen, gList, gLt, gMM, gMod, gMul, gMulS, gNe, gNotIn, gPow, gSorted, gSub, gIadd, gSum, gTuple, puts, sV, sVs, slotM, wAnd, wApp, wAsg, wAug, wAugI, wB, wC, wCall, wCallR, wChain, wCons, wDraw, wDrop, wEnL, wEnT, wExt, wFn, wFnO, wFor, wGCons, wGNil, wGT, wIL, wIT, wIdx, wIf, wIfS, wIsi, wIx, wLc, wLst, wMNil, wMO, wMV, wMix, wN, wNeg, wNil, wNot, wNotT, wO, wOp, wOr, wOwn, wPar, wR1, wR2, wRaise, wRaiseF, wRet, wSeq, wSet, wSetI, wSkip, wTAnd, wTNot, wTOr, wTru, wTry, wTryF, wTup, wV, wYes, wSplit, wJoin, wRstrip, wFmt, wJNil, wJCons, wJs, gStr, gIntS, wIS, gSignNotIn, wSl, wSlt, wPn, wPs, gMulT, wGL, wTryAs, wXf, wXis, wCat, wCatV, wIxV, startS, List.length_cons, List.length_nil, List.map_cons, List.map_nil, List.getElem?_cons_zero, List.getElem?_cons_succ, List.set_cons_zero, List.set_cons_succ, List.cons_append, List.nil_append, List.append_nil, List.replicate_succ, List.replicate_zero, Nat.reduceAdd, Nat.reduceSub, ↓reduceIte, Bool.false_eq_true, reduceCtorEq, true_and, and_true, true_or, or_true, false_or, or_false, Bool.not_true, Bool.not_false, Bool.true_and, Bool.false_and, Bool.and_true, decide_eq_true_eq, Bool.not_eq_eq_eq_not, exists_eq_left, exists_eq_left', Option.some.injEq]
      refine for_inv (fun r S => ∃ (l : List Nat) (b : Bool) (s6 : Slot), r = l.map (fun c => PyData.str ⟨#[c]⟩) ∧ S = [.im (.list (List.map eW ws)), .im (.int line), .im (.int p), .im (.int most), .im (.str (mkS w)), .im (.bool b), s6] ∧ (b && digitsOk l) = fineW w) _ _ ?_ ⟨w, b0, .un, rfl, rfl, hb0⟩ ?_
      · rintro d r S ⟨l, b, s6, er, rfl, hb⟩ Nx hN
        cases l with
        | nil => cases er
        | cons x l =>
          cases er
          simp only [bl?, g2, gAdd, gDiv, gEq, gGe, gGt, gI, gIn, gInt, gIs, gIsNot, gLe, gLen, gList, gLt, gMM, gMod, gMul, gMulS, gNe, gNotIn, gPow, gSorted, gSub, gIadd, gSum, gTuple, puts, sV, sVs, slotM, wAnd, wApp, wAsg, wAug, wAugI, wB, wC, wCall, wCallR, wChain, wCons, wDraw, wDrop, wEnL, wEnT, wExt, wFn, wFnO, wFor, wGCons, wGNil, wGT, wIL, wIT, wIdx, wIf, wIfS, wIsi, wIx, wLc, wLst, wMNil, wMO, wMV, wMix, wN, wNeg, wNil, wNot, wNotT, wO, wOp, wOr, wOwn, wPar, wR1, wR2, wRaise, wRaiseF, wRet, wSeq, wSet, wSetI, wSkip, wTAnd, wTNot, wTOr, wTru, wTry, wTryF, wTup, wV, wYes, wSplit, wJoin, wRstrip, wFmt, wJNil, wJCons, wJs, gStr, gIntS, wIS, gSignNotIn, wSl, wSlt, wPn, wPs, gMulT, wGL, wTryAs, wXf, wXis, wCat, wCatV, wIxV, startS, List.length_cons, List.length_nil, List.map_cons, List.map_nil, List.getElem?_cons_zero, List.getElem?_cons_succ, List.set_cons_zero, List.set_cons_succ, List.cons_append, List.nil_append, List.append_nil, List.replicate_succ, List.replicate_zero, Nat.reduceAdd, Nat.reduceSub, ↓reduceIte, Bool.false_eq_true, reduceCtorEq, true_and, and_true, true_or, or_true, false_or, or_false, Bool.not_true, Bool.not_false, Bool.true_and, Bool.false_and, Bool.and_true, decide_eq_true_eq, Bool.not_eq_eq_eq_not, exists_eq_left, exists_eq_left', Option.some.injEq, flat]
          rw [mem_digits]
          have hd : digitsOk (x :: l) = ((decide (48 ≤ x) && decide (x ≤ 57)) && digitsOk l) := rfl
          rw [hd] at hb
          cases hx : (decide (48 ≤ x) && decide (x ≤ 57)) with
          | true =>
            rw [hx, Bool.true_and] at hb
            simp only [startS, List.length_cons, List.length_nil, List.map_cons, List.map_nil, List.getElem?_cons_zero, List.getElem?_cons_succ, List.set_cons_zero, List.set_cons_succ, List.cons_append, List.nil_append, List.append_nil, List.replicate_succ, List.replicate_zero, Nat.reduceAdd, Nat.reduceSub, ↓reduceIte, Bool.false_eq_true, reduceCtorEq, true_and, and_true, true_or, or_true, false_or, or_false, Bool.not_true, Bool.not_false, Bool.true_and, Bool.false_and, Bool.and_true, decide_eq_true_eq, Bool.not_eq_eq_eq_not, exists_eq_left, exists_eq_left', Option.some.injEq]
            exact hN _ ⟨l, b, _, rfl, rfl, hb⟩
          | false =>
            rw [hx, Bool.false_and, Bool.and_false] at hb
            simp only [startS, List.length_cons, List.length_nil, List.map_cons, List.map_nil, List.getElem?_cons_zero, List.getElem?_cons_succ, List.set_cons_zero, List.set_cons_succ, List.cons_append, List.nil_append, List.append_nil, List.replicate_succ, List.replicate_zero, Nat.reduceAdd, Nat.reduceSub, ↓reduceIte, Bool.false_eq_true, reduceCtorEq, true_and, and_true, true_or, or_true, false_or, or_false, Bool.not_true, Bool.not_false, Bool.true_and, Bool.false_and, Bool.and_true, decide_eq_true_eq, Bool.not_eq_eq_eq_not, exists_eq_left, exists_eq_left', Option.some.injEq]
            exact hN _ ⟨l, false, _, rfl, rfl, by rw [Bool.false_and]; exact hb⟩
      · rintro S ⟨l, b, s6, er, rfl, hb⟩
        have el : l = [] := by cases l with
          | nil => rfl
          | cons x l => cases er
        subst el
        have hb' : b = fineW w := by rw [← hb]; simp [digitsOk]
        subst hb'
        simp only [w_number_at_5, w_number_at_6, bl?, g2, gAdd, gDiv, gEq, gGe, gGt, gI, gIn, gInt, gIs, gIsNot, gLe, gLen, gList, gLt, gMM, gMod, gMul, gMulS, gNe, gNotIn, gPow, gSorted, gSub, gIadd, gSum, gTuple, puts, sV, sVs, slotM, wAnd, wApp, wAsg, wAug, wAugI, wB, wC, wCall, wCallR, wChain, wCons, wDraw, wDrop, wEnL, wEnT, wExt, wFn, wFnO, wFor, wGCons, wGNil, wGT, wIL, wIT, wIdx, wIf, wIfS, wIsi, wIx, wLc, wLst, wMNil, wMO, wMV, wMix, wN, wNeg, wNil, wNot, wNotT, wO, wOp, wOr, wOwn, wPar, wR1, wR2, wRaise, wRaiseF, wRet, wSeq, wSet, wSetI, wSkip, wTAnd, wTNot, wTOr, wTru, wTry, wTryF, wTup, wV, wYes, wSplit, wJoin, wRstrip, wFmt, wJNil, wJCons, wJs, gStr, gIntS, wIS, gSignNotIn, wSl, wSlt, wPn, wPs, gMulT, wGL, wTryAs, wXf, wXis, wCat, wCatV, wIxV, startS, List.length_cons, List.length_nil, List.map_cons, List.map_nil, List.getElem?_cons_zero, List.getElem?_cons_succ, List.set_cons_zero, List.set_cons_succ, List.cons_append, List.nil_append, List.append_nil, List.replicate_succ, List.replicate_zero, Nat.reduceAdd, Nat.reduceSub, ↓reduceIte, Bool.false_eq_true, reduceCtorEq, true_and, and_true, true_or, or_true, false_or, or_false, Bool.not_true, Bool.not_false, Bool.true_and, Bool.false_and, Bool.and_true, decide_eq_true_eq, Bool.not_eq_eq_eq_not, exists_eq_left, exists_eq_left', Option.some.injEq]
        cases hf : fineW w with
        | false =>
          simp only [startS, List.length_cons, List.length_nil, List.map_cons, List.map_nil, List.getElem?_cons_zero, List.getElem?_cons_succ, List.set_cons_zero, List.set_cons_succ, List.cons_append, List.nil_append, List.append_nil, List.replicate_succ, List.replicate_zero, Nat.reduceAdd, Nat.reduceSub, ↓reduceIte, Bool.false_eq_true, reduceCtorEq, true_and, and_true, true_or, or_true, false_or, or_false, Bool.not_true, Bool.not_false, Bool.true_and, Bool.false_and, Bool.and_true, decide_eq_true_eq, Bool.not_eq_eq_eq_not, exists_eq_left, exists_eq_left', Option.some.injEq, bl?, g2, gAdd, gDiv, gEq, gGe, gGt, gI, gIn, gInt, gIs, gIsNot, gLe, gLen, gList, gLt, gMM, gMod, gMul, gMulS, gNe, gNotIn, gPow, gSorted, gSub, gIadd, gSum, gTuple, puts, sV, sVs, slotM, wAnd, wApp, wAsg, wAug, wAugI, wB, wC, wCall, wCallR, wChain, wCons, wDraw, wDrop, wEnL, wEnT, wExt, wFn, wFnO, wFor, wGCons, wGNil, wGT, wIL, wIT, wIdx, wIf, wIfS, wIsi, wIx, wLc, wLst, wMNil, wMO, wMV, wMix, wN, wNeg, wNil, wNot, wNotT, wO, wOp, wOr, wOwn, wPar, wR1, wR2, wRaise, wRaiseF, wRet, wSeq, wSet, wSetI, wSkip, wTAnd, wTNot, wTOr, wTru, wTry, wTryF, wTup, wV, wYes, wSplit, wJoin, wRstrip, wFmt, wJNil, wJCons, wJs, gStr, gIntS, wIS, gSignNotIn, wSl, wSlt, wPn, wPs, gMulT, wGL, wTryAs, wXf, wXis, wCat, wCatV, wIxV, sVs, sV]
          simpa using hB (by unfold numW; rw [hf]; simp)
        | true =>
          have hf2 := hf
          unfold fineW at hf2
          simp only [Bool.and_eq_true, decide_eq_true_eq] at hf2
          obtain ⟨⟨f1, f2⟩, f3⟩ := hf2
          have hi : PySem.intText? (mkS w) = some ((valW w : Nat) : Int) := intText_digits (x := mkS w) (fun c hc => by
            have := List.all_eq_true.mp f3 c hc
            simpa using this) hne (by rw [len_mkS]; omega)
          have h640 : w.length ≤ 640 := by omega
          simp only [startS, List.length_cons, List.length_nil, List.map_cons, List.map_nil, List.getElem?_cons_zero, List.getElem?_cons_succ, List.set_cons_zero, List.set_cons_succ, List.cons_append, List.nil_append, List.append_nil, List.replicate_succ, List.replicate_zero, Nat.reduceAdd, Nat.reduceSub, ↓reduceIte, Bool.false_eq_true, reduceCtorEq, true_and, and_true, true_or, or_true, false_or, or_false, Bool.not_true, Bool.not_false, Bool.true_and, Bool.false_and, Bool.and_true, decide_eq_true_eq, Bool.not_eq_eq_eq_not, exists_eq_left, exists_eq_left', Option.some.injEq, bl?, g2, gAdd, gDiv, gEq, gGe, gGt, gI, gIn, gInt, gIs, gIsNot, gLe, gLen, gList, gLt, gMM, gMod, gMul, gMulS, gNe, gNotIn, gPow, gSorted, gSub, gIadd, gSum, gTuple, puts, sV, sVs, slotM, wAnd, wApp, wAsg, wAug, wAugI, wB, wC, wCall, wCallR, wChain, wCons, wDraw, wDrop, wEnL, wEnT, wExt, wFn, wFnO, wFor, wGCons, wGNil, wGT, wIL, wIT, wIdx, wIf, wIfS, wIsi, wIx, wLc, wLst, wMNil, wMO, wMV, wMix, wN, wNeg, wNil, wNot, wNotT, wO, wOp, wOr, wOwn, wPar, wR1, wR2, wRaise, wRaiseF, wRet, wSeq, wSet, wSetI, wSkip, wTAnd, wTNot, wTOr, wTru, wTry, wTryF, wTup, wV, wYes, wSplit, wJoin, wRstrip, wFmt, wJNil, wJCons, wJs, gStr, gIntS, wIS, gSignNotIn, wSl, wSlt, wPn, wPs, gMulT, wGL, wTryAs, wXf, wXis, wCat, wCatV, wIxV, hi, len_mkS, h640]
          by_cases c2 : most < (valW w : Int)
          · simp only [c2, decide_true, startS, List.length_cons, List.length_nil, List.map_cons, List.map_nil, List.getElem?_cons_zero, List.getElem?_cons_succ, List.set_cons_zero, List.set_cons_succ, List.cons_append, List.nil_append, List.append_nil, List.replicate_succ, List.replicate_zero, Nat.reduceAdd, Nat.reduceSub, ↓reduceIte, Bool.false_eq_true, reduceCtorEq, true_and, and_true, true_or, or_true, false_or, or_false, Bool.not_true, Bool.not_false, Bool.true_and, Bool.false_and, Bool.and_true, decide_eq_true_eq, Bool.not_eq_eq_eq_not, exists_eq_left, exists_eq_left', Option.some.injEq, bl?, g2, gAdd, gDiv, gEq, gGe, gGt, gI, gIn, gInt, gIs, gIsNot, gLe, gLen, gList, gLt, gMM, gMod, gMul, gMulS, gNe, gNotIn, gPow, gSorted, gSub, gIadd, gSum, gTuple, puts, sV, sVs, slotM, wAnd, wApp, wAsg, wAug, wAugI, wB, wC, wCall, wCallR, wChain, wCons, wDraw, wDrop, wEnL, wEnT, wExt, wFn, wFnO, wFor, wGCons, wGNil, wGT, wIL, wIT, wIdx, wIf, wIfS, wIsi, wIx, wLc, wLst, wMNil, wMO, wMV, wMix, wN, wNeg, wNil, wNot, wNotT, wO, wOp, wOr, wOwn, wPar, wR1, wR2, wRaise, wRaiseF, wRet, wSeq, wSet, wSetI, wSkip, wTAnd, wTNot, wTOr, wTru, wTry, wTryF, wTup, wV, wYes, wSplit, wJoin, wRstrip, wFmt, wJNil, wJCons, wJs, gStr, gIntS, wIS, gSignNotIn, wSl, wSlt, wPn, wPs, gMulT, wGL, wTryAs, wXf, wXis, wCat, wCatV, wIxV, sVs, sV]
            simpa using hB (by unfold numW; rw [if_neg]; intro z; exact z.2 c2)
          · simp only [c2, decide_false, startS, List.length_cons, List.length_nil, List.map_cons, List.map_nil, List.getElem?_cons_zero, List.getElem?_cons_succ, List.set_cons_zero, List.set_cons_succ, List.cons_append, List.nil_append, List.append_nil, List.replicate_succ, List.replicate_zero, Nat.reduceAdd, Nat.reduceSub, ↓reduceIte, Bool.false_eq_true, reduceCtorEq, true_and, and_true, true_or, or_true, false_or, or_false, Bool.not_true, Bool.not_false, Bool.true_and, Bool.false_and, Bool.and_true, decide_eq_true_eq, Bool.not_eq_eq_eq_not, exists_eq_left, exists_eq_left', Option.some.injEq, bl?, g2, gAdd, gDiv, gEq, gGe, gGt, gI, gIn, gInt, gIs, gIsNot, gLe, gLen, gList, gLt, gMM, gMod, gMul, gMulS, gNe, gNotIn, gPow, gSorted, gSub, gIadd, gSum, gTuple, puts, sV, sVs, slotM, wAnd, wApp, wAsg, wAug, wAugI, wB, wC, wCall, wCallR, wChain, wCons, wDraw, wDrop, wEnL, wEnT, wExt, wFn, wFnO, wFor, wGCons, wGNil, wGT, wIL, wIT, wIdx, wIf, wIfS, wIsi, wIx, wLc, wLst, wMNil, wMO, wMV, wMix, wN, wNeg, wNil, wNot, wNotT, wO, wOp, wOr, wOwn, wPar, wR1, wR2, wRaise, wRaiseF, wRet, wSeq, wSet, wSetI, wSkip, wTAnd, wTNot, wTOr, wTru, wTry, wTryF, wTup, wV, wYes, wSplit, wJoin, wRstrip, wFmt, wJNil, wJCons, wJs, gStr, gIntS, wIS, gSignNotIn, wSl, wSlt, wPn, wPs, gMulT, wGL, wTryAs, wXf, wXis, wCat, wCatV, wIxV]
            exact hA _ (by unfold numW; rw [if_pos ⟨hf, c2⟩])
    by_cases c1 : w.length ≤ 31
    · have c1' : (w.length : Int) ≤ 31 := by omega
      simp only [c1', decide_true, startS, List.length_cons, List.length_nil, List.map_cons, List.map_nil, List.getElem?_cons_zero, List.getElem?_cons_succ, List.set_cons_zero, List.set_cons_succ, List.cons_append, List.nil_append, List.append_nil, List.replicate_succ, List.replicate_zero, Nat.reduceAdd, Nat.reduceSub, ↓reduceIte, Bool.false_eq_true, reduceCtorEq, true_and, and_true, true_or, or_true, false_or, or_false, Bool.not_true, Bool.not_false, Bool.true_and, Bool.false_and, Bool.and_true, decide_eq_true_eq, Bool.not_eq_eq_eq_not, exists_eq_left, exists_eq_left', Option.some.injEq]
      cases h48 : decide (w.head? = some 48) with
      | true =>
        simp only [startS, List.length_cons, List.length_nil, List.map_cons, List.map_nil, List.getElem?_cons_zero, List.getElem?_cons_succ, List.set_cons_zero, List.set_cons_succ, List.cons_append, List.nil_append, List.append_nil, List.replicate_succ, List.replicate_zero, Nat.reduceAdd, Nat.reduceSub, ↓reduceIte, Bool.false_eq_true, reduceCtorEq, true_and, and_true, true_or, or_true, false_or, or_false, Bool.not_true, Bool.not_false, Bool.true_and, Bool.false_and, Bool.and_true, decide_eq_true_eq, Bool.not_eq_eq_eq_not, exists_eq_left, exists_eq_left', Option.some.injEq]
        refine rest _ ?_
        unfold fineW
        rw [decide_eq_true c1]
        simp at h48
        simp [h48]
      | false =>
        simp only [startS, List.length_cons, List.length_nil, List.map_cons, List.map_nil, List.getElem?_cons_zero, List.getElem?_cons_succ, List.set_cons_zero, List.set_cons_succ, List.cons_append, List.nil_append, List.append_nil, List.replicate_succ, List.replicate_zero, Nat.reduceAdd, Nat.reduceSub, ↓reduceIte, Bool.false_eq_true, reduceCtorEq, true_and, and_true, true_or, or_true, false_or, or_false, Bool.not_true, Bool.not_false, Bool.true_and, Bool.false_and, Bool.and_true, decide_eq_true_eq, Bool.not_eq_eq_eq_not, exists_eq_left, exists_eq_left', Option.some.injEq]
        refine rest _ ?_
        unfold fineW
        rw [decide_eq_true c1]
        simp at h48
        simp [h48]
    · have c1' : ¬ (w.length : Int) ≤ 31 := by omega
      simp only [c1', decide_false, startS, List.length_cons, List.length_nil, List.map_cons, List.map_nil, List.getElem?_cons_zero, List.getElem?_cons_succ, List.set_cons_zero, List.set_cons_succ, List.cons_append, List.nil_append, List.append_nil, List.replicate_succ, List.replicate_zero, Nat.reduceAdd, Nat.reduceSub, ↓reduceIte, Bool.false_eq_true, reduceCtorEq, true_and, and_true, true_or, or_true, false_or, or_false, Bool.not_true, Bool.not_false, Bool.true_and, Bool.false_and, Bool.and_true, decide_eq_true_eq, Bool.not_eq_eq_eq_not, exists_eq_left, exists_eq_left', Option.some.injEq]
      refine rest _ ?_
      unfold fineW
      rw [decide_eq_false c1]
      simp
/-! the rows -/
def hW : List Nat := [104, 101, 97, 112, 115]
def sW : List Nat := [115, 116, 101, 112]
theorem mk_heaps : ("heaps" : Str) = mkS hW := by rw [str_eq, tl_mkS]; decide +kernel
theorem mk_step : ("step" : Str) = mkS sW := by rw [str_eq, tl_mkS]; decide +kernel
theorem cut_take {α : Type} (xs : List α) (k : Nat) : cutL xs none (some (k : Int)) = xs.take k := by
  unfold cutL
  rw [HT.sIx_none, HT.sIx_nat, List.drop_zero, Nat.sub_zero]
  rcases Nat.le_total k xs.length with h | h
  · rw [Nat.min_eq_left h]
  · rw [Nat.min_eq_right h, List.take_length, List.take_of_length_le h]
theorem cut_drop {α : Type} (xs : List α) (k : Nat) : cutL xs (some (k : Int)) none = xs.drop k := by
  unfold cutL
  rw [HT.sIx_none, HT.sIx_nat]
  rcases Nat.le_total k xs.length with h | h
  · rw [Nat.min_eq_left h, List.take_of_length_le (by rw [List.length_drop]; omega)]
  · rw [Nat.min_eq_right h, List.drop_eq_nil_of_le h]
    simp
theorem cut_take1 (ws : List (List Nat)) : cutL (ws.map eW) none (some 1) = (ws.take 1).map eW := by
  rw [List.map_take]
  exact cut_take (ws.map eW) 1
theorem eqv_words (a b : List (List Nat)) : PyData.eqv (.list (a.map eW)) (.list (b.map eW)) = decide (a = b) := eqv_list eqv_eW a b
def rhLoop (ws : List (List Nat)) : List Nat → List Nat → Except (Nat × Nat) (List Nat)
  | [], acc => if acc.foldl max 0 = 0 then .error (1, ws.length) else .ok acc
  | p :: r, acc => if 6 < p then .error (1, p + 1) else match numAt ws p big with
    | none => .error (1, p + 1)
    | some v => rhLoop ws r (acc ++ [v])
def readHeapsF (ws : List (List Nat)) : Except (Nat × Nat) (List Nat) := if ws.take 1 = [hW] then rhLoop ws ((List.range (max ws.length 3 - 1)).map (· + 1)) [] else .error (1, 1)
abbrev eNs (l : List Nat) : List Int := l.map fun (n : Nat) => (n : Int)
def res {α : Type} (r : Except (Nat × Nat) α) (A : α → Prop) (B : XC → Prop) : Prop := match r with
  | .ok v => A v
  | .error e => B ("InvalidText", [("word", .int (e.2 : Nat)), ("line", .int (e.1 : Nat))])
def sp_read_heaps : Spc := fun ds A B => ∃ (ws : List (List Nat)), ds = [eR ws] ∧ okWs ws ∧ ws.length ≤ 1000000 ∧ res (readHeapsF ws) (fun l => A (eH (eNs l))) B
def w_read_heaps_1 : WS :=
    (wIfS (wB (wOp gNe (wO (wSl (wV 0) wPn (wPs (wC (.int 1))))) (wO (wLst (wCons (wC (.str "heaps")) wNil))))) (wRaiseF "InvalidText" ["line", "word"] (wCons (wC (.int 1)) (wCons (wC (.int 1)) wNil))) wSkip)
def w_read_heaps_2 : WS :=
    (wOwn 1 (wLst wNil))
def w_read_heaps_3_1 : WS :=
    (wIfS (wB (wOp gGt (wV 2) (wC (.int 6)))) (wRaiseF "InvalidText" ["line", "word"] (wCons (wC (.int 1)) (wCons (wOp gAdd (wV 2) (wC (.int 1))) wNil))) wSkip)
def w_read_heaps_3_2 : WS :=
    (wApp 1 (wCall sp_number_at (wCons (wV 0) (wCons (wC (.int 1)) (wCons (wV 2) (wCons (wC (.int 1000000000000000000000000000000)) wNil))))))
def w_read_heaps_3 : WS :=
    (wFor (wR2 (wCons (wC (.int 1)) (wCons (wFn (g2 fun i j => if j > i then j else i) (wCons (wFn gLen (wCons (wV 0) wNil)) (wCons (wOp gAdd (wC (.int 2)) (wC (.int 1))) wNil))) wNil))) (wN 2) (wSeq w_read_heaps_3_1
    w_read_heaps_3_2))
def w_read_heaps_4 : WS :=
    (wIfS (wB (wOp gEq (wFn (gMM max) (wCons (wV 1) wNil)) (wC (.int 0)))) (wRaiseF "InvalidText" ["line", "word"] (wCons (wC (.int 1)) (wCons (wFn gLen (wCons (wV 0) wNil)) wNil))) wSkip)
def w_read_heaps_5 : WS :=
    (wRet (wFn gTuple (wCons (wV 1) wNil)))
def w_read_heaps : WS :=
    (wSeq w_read_heaps_1
    (wSeq w_read_heaps_2
    (wSeq w_read_heaps_3
    (wSeq w_read_heaps_4
    w_read_heaps_5))))
theorem max_nat (l : List Nat) (n : Nat) : (eNs l).foldl max (n : Int) = ((l.foldl max n : Nat) : Int) := by
  induction l generalizing n with
  | nil => rfl
  | cons x l ih =>
    show (eNs l).foldl max (max (n : Int) (x : Int)) = _
    rw [show max (n : Int) (x : Int) = ((max n x : Nat) : Int) by omega, ih]
    rfl
theorem max0 (x : Nat) (l : List Nat) : (x :: l).foldl max 0 = l.foldl max x := by
  show l.foldl max (max 0 x) = _
  rw [Nat.zero_max]
theorem num_use {ws : List (List Nat)} {line p : Nat} {most : Int} {A : PyData → Prop} {B : XC → Prop} (hw : okWs ws) (h1 : ∀ v, numAt ws p most = some v → A (.int (v : Nat)))
    (h2 : numAt ws p most = none → B ("InvalidText", [("word", .int ((p + 1 : Nat) : Int)), ("line", .int (line : Nat))])) : sp_number_at [eR ws, .int line, .int p, .int most] A B := ⟨ws, line, p, most, rfl, hw, h1, h2⟩
theorem int_map (l : List Nat) : l.map (fun (n : Nat) => PyData.int (n : Int)) = (eNs l).map PyData.int := by rw [List.map_map]; rfl
theorem pure_read_heaps : Pure 3 1 sp_read_heaps w_read_heaps := by
  rintro ds A B - ⟨ws, rfl, hw, hl, hr⟩
  have sh : SeqAt.shaped (.list [.str ("heaps" : Str)]) = true := by rw [mk_heaps]; exact shaped_eR (ws := [hW]) fun w hw => by rw [List.mem_singleton.mp hw]; exact asT_small (by decide)
  have st : SeqAt.shaped (.list ((ws.take 1).map eW)) = true := shaped_eR fun w h => (hw w (List.mem_of_mem_take h)).2.2
  have eh : PyData.eqv (.list ((ws.take 1).map eW)) (.list [.str ("heaps" : Str)]) = decide (ws.take 1 = [hW]) := by rw [mk_heaps]; exact eqv_words (ws.take 1) [hW]
  simp only [w_read_heaps, w_read_heaps_1, bl?, g2, gAdd, gDiv, gEq, gGe, gGt, gI, gIn, gInt, gIs, gIsNot, gLe, gLen, gList, gLt, gMM, gMod, gMul, gMulS, gNe, gNotIn, gPow, gSorted, gSub, gIadd, gSum, gTuple, puts, sV, sVs, slotM, wAnd, wApp, wAsg, wAug, wAugI, wB, wC, wCall, wCallR, wChain, wCons, wDraw, wDrop, wEnL, wEnT, wExt, wFn, wFnO, wFor, wGCons, wGNil, wGT, wIL, wIT, wIdx, wIf, wIfS, wIsi, wIx, wLc, wLst, wMNil, wMO, wMV, wMix, wN, wNeg, wNil, wNot, wNotT, wO, wOp, wOr, wOwn, wPar, wR1, wR2, wRaise, wRaiseF, wRet, wSeq, wSet, wSetI, wSkip, wTAnd, wTNot, wTOr, wTru, wTry, wTryF, wTup, wV, wYes, wSplit, wJoin, wRstrip, wFmt, wJNil, wJCons, wJs, gStr, gIntS, wIS, gSignNotIn, wSl, wSlt, wPn, wPs, gMulT, wGL, wTryAs, wXf, wXis, wCat, wCatV, wIxV, startS, List.length_cons, List.length_nil, List.map_cons, List.map_nil, List.getElem?_cons_zero, List.getElem?_cons_succ, List.set_cons_zero, List.set_cons_succ, List.cons_append, List.nil_append, List.append_nil, List.replicate_succ, List.replicate_zero, Nat.reduceAdd, Nat.reduceSub, ↓reduceIte, Bool.false_eq_true, reduceCtorEq, true_and, and_true, true_or, or_true, false_or, or_false, Bool.not_true, Bool.not_false, Bool.true_and, Bool.false_and, Bool.and_true, decide_eq_true_eq, Bool.not_eq_eq_eq_not, exists_eq_left, exists_eq_left', Option.some.injEq, eR, cut_take1, sh, st, eh]
  refine ⟨by decide, ?_⟩
  by_cases c : ws.take 1 = [hW]
  · have hr' : res (rhLoop ws ((List.range (max ws.length 3 - 1)).map (· + 1)) []) (fun l => A (eH (eNs l))) B := by
      unfold readHeapsF at hr
      rw [if_pos c] at hr
      exact hr
    simp only [c, decide_true, startS, List.length_cons, List.length_nil, List.map_cons, List.map_nil, List.getElem?_cons_zero, List.getElem?_cons_succ, List.set_cons_zero, List.set_cons_succ, List.cons_append, List.nil_append, List.append_nil, List.replicate_succ, List.replicate_zero, Nat.reduceAdd, Nat.reduceSub, ↓reduceIte, Bool.false_eq_true, reduceCtorEq, true_and, and_true, true_or, or_true, false_or, or_false, Bool.not_true, Bool.not_false, Bool.true_and, Bool.false_and, Bool.and_true, decide_eq_true_eq, Bool.not_eq_eq_eq_not, exists_eq_left, exists_eq_left', Option.some.injEq, w_read_heaps_2, w_read_heaps_3, bl?, g2, gAdd, gDiv, gEq, gGe, gGt, gI, gIn, gInt, gIs, gIsNot, gLe, gLen, gList, gLt, gMM, gMod, gMul, gMulS, gNe, gNotIn, gPow, gSorted, gSub, gIadd, gSum, gTuple, puts, sV, sVs, slotM, wAnd, wApp, wAsg, wAug, wAugI, wB, wC, wCall, wCallR, wChain, wCons, wDraw, wDrop, wEnL, wEnT, wExt, wFn, wFnO, wFor, wGCons, wGNil, wGT, wIL, wIT, wIdx, wIf, wIfS, wIsi, wIx, wLc, wLst, wMNil, wMO, wMV, wMix, wN, wNeg, wNil, wNot, wNotT, wO, wOp, wOr, wOwn, wPar, wR1, wR2, wRaise, wRaiseF, wRet, wSeq, wSet, wSetI, wSkip, wTAnd, wTNot, wTOr, wTru, wTry, wTryF, wTup, wV, wYes, wSplit, wJoin, wRstrip, wFmt, wJNil, wJCons, wJs, gStr, gIntS, wIS, gSignNotIn, wSl, wSlt, wPn, wPs, gMulT, wGL, wTryAs, wXf, wXis, wCat, wCatV, wIxV]
    have hmx : (if (2 : Int) + 1 > ((ws.map eW).length : Int) then (2 : Int) + 1 else ((ws.map eW).length : Int)) = ((max ws.length 3 : Nat) : Int) := by
      rw [List.length_map]
      split <;> omega
    have e62 : (2 : Int) ^ 62 = 4611686018427387904 := by decide
    rw [hmx]
    refine ⟨by decide, ⟨by rw [e62]; omega, by rw [e62]; omega, by rw [e62]; omega, by rw [e62]; omega⟩, ?_⟩
    have er : rangeD 1 (((max ws.length 3 : Nat) : Int) - 1).toNat = ((List.range (max ws.length 3 - 1)).map (· + 1)).map fun n => PyData.int (n : Nat) := by
      rw [show (((max ws.length 3 : Nat) : Int) - 1).toNat = max ws.length 3 - 1 by omega, rangeD, List.map_map]
      refine List.map_congr_left fun i _ => ?_
      show PyData.int (1 + (i : Int)) = PyData.int (((i + 1 : Nat)) : Int)
      rw [show (1 + (i : Int)) = ((i + 1 : Nat) : Int) by omega]
    rw [er]
    refine for_inv (fun r S => ∃ (q acc : List Nat) (s2 : Slot), r = q.map (fun n => PyData.int (n : Nat)) ∧ S = [.im (.list (ws.map eW)), .ol ((eNs acc).map .int), s2] ∧ acc.length + q.length ≤ 1000003 ∧ (acc ≠ [] ∨ q ≠ []) ∧ res (rhLoop ws q acc) (fun l => A (eH (eNs l))) B) _ _ ?_
      ⟨_, [], .un, rfl, rfl, by simp; omega, .inr (by simp; omega), hr'⟩ ?_
    · rintro d r S ⟨q, acc, s2, er, rfl, ha, hne, hr⟩ Nx hN
      cases q with
      | nil => cases er
      | cons p q =>
        cases er
        rw [List.length_cons] at ha
        simp only [bl?, g2, gAdd, gDiv, gEq, gGe, gGt, gI, gIn, gInt, gIs, gIsNot, gLe, gLen, gList, gLt, gMM, gMod, gMul, gMulS, gNe, gNotIn, gPow, gSorted, gSub, gIadd, gSum, gTuple, puts, sV, sVs, slotM, wAnd, wApp, wAsg, wAug, wAugI, wB, wC, wCall, wCallR, wChain, wCons, wDraw, wDrop, wEnL, wEnT, wExt, wFn, wFnO, wFor, wGCons, wGNil, wGT, wIL, wIT, wIdx, wIf, wIfS, wIsi, wIx, wLc, wLst, wMNil, wMO, wMV, wMix, wN, wNeg, wNil, wNot, wNotT, wO, wOp, wOr, wOwn, wPar, wR1, wR2, wRaise, wRaiseF, wRet, wSeq, wSet, wSetI, wSkip, wTAnd, wTNot, wTOr, wTru, wTry, wTryF, wTup, wV, wYes, wSplit, wJoin, wRstrip, wFmt, wJNil, wJCons, wJs, gStr, gIntS, wIS, gSignNotIn, wSl, wSlt, wPn, wPs, gMulT, wGL, wTryAs, wXf, wXis, wCat, wCatV, wIxV, startS, List.length_cons, List.length_nil, List.map_cons, List.map_nil, List.getElem?_cons_zero, List.getElem?_cons_succ, List.set_cons_zero, List.set_cons_succ, List.cons_append, List.nil_append, List.append_nil, List.replicate_succ, List.replicate_zero, Nat.reduceAdd, Nat.reduceSub, ↓reduceIte, Bool.false_eq_true, reduceCtorEq, true_and, and_true, true_or, or_true, false_or, or_false, Bool.not_true, Bool.not_false, Bool.true_and, Bool.false_and, Bool.and_true, decide_eq_true_eq, Bool.not_eq_eq_eq_not, exists_eq_left, exists_eq_left', Option.some.injEq, flat]
        by_cases c6 : 6 < p
        · have c6' : (6 : Int) < p := by omega
          unfold rhLoop at hr
          rw [if_pos c6] at hr
          simp only [w_read_heaps_3_1, c6', decide_true, startS, List.length_cons, List.length_nil, List.map_cons, List.map_nil, List.getElem?_cons_zero, List.getElem?_cons_succ, List.set_cons_zero, List.set_cons_succ, List.cons_append, List.nil_append, List.append_nil, List.replicate_succ, List.replicate_zero, Nat.reduceAdd, Nat.reduceSub, ↓reduceIte, Bool.false_eq_true, reduceCtorEq, true_and, and_true, true_or, or_true, false_or, or_false, Bool.not_true, Bool.not_false, Bool.true_and, Bool.false_and, Bool.and_true, decide_eq_true_eq, Bool.not_eq_eq_eq_not, exists_eq_left, exists_eq_left', Option.some.injEq, bl?, g2, gAdd, gDiv, gEq, gGe, gGt, gI, gIn, gInt, gIs, gIsNot, gLe, gLen, gList, gLt, gMM, gMod, gMul, gMulS, gNe, gNotIn, gPow, gSorted, gSub, gIadd, gSum, gTuple, puts, sV, sVs, slotM, wAnd, wApp, wAsg, wAug, wAugI, wB, wC, wCall, wCallR, wChain, wCons, wDraw, wDrop, wEnL, wEnT, wExt, wFn, wFnO, wFor, wGCons, wGNil, wGT, wIL, wIT, wIdx, wIf, wIfS, wIsi, wIx, wLc, wLst, wMNil, wMO, wMV, wMix, wN, wNeg, wNil, wNot, wNotT, wO, wOp, wOr, wOwn, wPar, wR1, wR2, wRaise, wRaiseF, wRet, wSeq, wSet, wSetI, wSkip, wTAnd, wTNot, wTOr, wTru, wTry, wTryF, wTup, wV, wYes, wSplit, wJoin, wRstrip, wFmt, wJNil, wJCons, wJs, gStr, gIntS, wIS, gSignNotIn, wSl, wSlt, wPn, wPs, gMulT, wGL, wTryAs, wXf, wXis, wCat, wCatV, wIxV]
          simpa [sVs, sV, res] using hr
        · have c6' : ¬ (6 : Int) < p := by omega
          unfold rhLoop at hr
          rw [if_neg c6] at hr
          simp only [w_read_heaps_3_1, w_read_heaps_3_2, c6', decide_false, startS, List.length_cons, List.length_nil, List.map_cons, List.map_nil, List.getElem?_cons_zero, List.getElem?_cons_succ, List.set_cons_zero, List.set_cons_succ, List.cons_append, List.nil_append, List.append_nil, List.replicate_succ, List.replicate_zero, Nat.reduceAdd, Nat.reduceSub, ↓reduceIte, Bool.false_eq_true, reduceCtorEq, true_and, and_true, true_or, or_true, false_or, or_false, Bool.not_true, Bool.not_false, Bool.true_and, Bool.false_and, Bool.and_true, decide_eq_true_eq, Bool.not_eq_eq_eq_not, exists_eq_left, exists_eq_left', Option.some.injEq, bl?, g2, gAdd, gDiv, gEq, gGe, gGt, gI, gIn, gInt, gIs, gIsNot, gLe, gLen, gList, gLt, gMM, gMod, gMul, gMulS, gNe, gNotIn, gPow, gSorted, gSub, gIadd, gSum, gTuple, puts, sV, sVs, slotM, wAnd, wApp, wAsg, wAug, wAugI, wB, wC, wCall, wCallR, wChain, wCons, wDraw, wDrop, wEnL, wEnT, wExt, wFn, wFnO, wFor, wGCons, wGNil, wGT, wIL, wIT, wIdx, wIf, wIfS, wIsi, wIx, wLc, wLst, wMNil, wMO, wMV, wMix, wN, wNeg, wNil, wNot, wNotT, wO, wOp, wOr, wOwn, wPar, wR1, wR2, wRaise, wRaiseF, wRet, wSeq, wSet, wSetI, wSkip, wTAnd, wTNot, wTOr, wTru, wTry, wTryF, wTup, wV, wYes, wSplit, wJoin, wRstrip, wFmt, wJNil, wJCons, wJs, gStr, gIntS, wIS, gSignNotIn, wSl, wSlt, wPn, wPs, gMulT, wGL, wTryAs, wXf, wXis, wCat, wCatV, wIxV]
          refine ⟨⟨_, rfl⟩, num_use (line := 1) hw (fun v hv => ?_) fun hv => ?_⟩
          · rw [hv] at hr
            refine ⟨by rw [List.length_map, List.length_map, sizeLine_eq]; omega, hN _ ⟨q, acc ++ [v], .im (.int (p : Nat)), rfl, by simp, by rw [List.length_append]; simp; omega, .inl (by simp), hr⟩⟩
          · rw [hv] at hr
            exact hr
    · rintro S ⟨q, acc, s2, er, rfl, ha, hne, hr⟩
      have eq : q = [] := by cases q with
        | nil => rfl
        | cons x l => cases er
      subst eq
      obtain ⟨x, l, rfl⟩ : ∃ x l, acc = x :: l := by
        cases acc with
        | nil => simp at hne
        | cons x l => exact ⟨x, l, rfl⟩
      unfold rhLoop at hr
      rw [max0] at hr
      simp only [w_read_heaps_4, w_read_heaps_5, bl?, g2, gAdd, gDiv, gEq, gGe, gGt, gI, gIn, gInt, gIs, gIsNot, gLe, gLen, gList, gLt, gMM, gMod, gMul, gMulS, gNe, gNotIn, gPow, gSorted, gSub, gIadd, gSum, gTuple, puts, sV, sVs, slotM, wAnd, wApp, wAsg, wAug, wAugI, wB, wC, wCall, wCallR, wChain, wCons, wDraw, wDrop, wEnL, wEnT, wExt, wFn, wFnO, wFor, wGCons, wGNil, wGT, wIL, wIT, wIdx, wIf, wIfS, wIsi, wIx, wLc, wLst, wMNil, wMO, wMV, wMix, wN, wNeg, wNil, wNot, wNotT, wO, wOp, wOr, wOwn, wPar, wR1, wR2, wRaise, wRaiseF, wRet, wSeq, wSet, wSetI, wSkip, wTAnd, wTNot, wTOr, wTru, wTry, wTryF, wTup, wV, wYes, wSplit, wJoin, wRstrip, wFmt, wJNil, wJCons, wJs, gStr, gIntS, wIS, gSignNotIn, wSl, wSlt, wPn, wPs, gMulT, wGL, wTryAs, wXf, wXis, wCat, wCatV, wIxV, startS, List.length_cons, List.length_nil, List.map_cons, List.map_nil, List.getElem?_cons_zero, List.getElem?_cons_succ, List.set_cons_zero, List.set_cons_succ, List.cons_append, List.nil_append, List.append_nil, List.replicate_succ, List.replicate_zero, Nat.reduceAdd, Nat.reduceSub, ↓reduceIte, Bool.false_eq_true, reduceCtorEq, true_and, and_true, true_or, or_true, false_or, or_false, Bool.not_true, Bool.not_false, Bool.true_and, Bool.false_and, Bool.and_true, decide_eq_true_eq, Bool.not_eq_eq_eq_not, exists_eq_left, exists_eq_left', Option.some.injEq]
      refine ⟨_, _, ints?_map (eNs (x :: l)), shaped_int _, shaped_int _, ?_⟩
      rw [max_nat, eqv_int]
      by_cases c0 : l.foldl max x = 0
      · have c0' : ((l.foldl max x : Nat) : Int) = 0 := by omega
        rw [if_pos c0] at hr
        simp only [c0', decide_true, startS, List.length_cons, List.length_nil, List.map_cons, List.map_nil, List.getElem?_cons_zero, List.getElem?_cons_succ, List.set_cons_zero, List.set_cons_succ, List.cons_append, List.nil_append, List.append_nil, List.replicate_succ, List.replicate_zero, Nat.reduceAdd, Nat.reduceSub, ↓reduceIte, Bool.false_eq_true, reduceCtorEq, true_and, and_true, true_or, or_true, false_or, or_false, Bool.not_true, Bool.not_false, Bool.true_and, Bool.false_and, Bool.and_true, decide_eq_true_eq, Bool.not_eq_eq_eq_not, exists_eq_left, exists_eq_left', Option.some.injEq]
        simpa [sVs, sV, res] using hr
      · have c0' : ¬ ((l.foldl max x : Nat) : Int) = 0 := by omega
        rw [if_neg c0] at hr
        simp only [c0', decide_false, startS, List.length_cons, List.length_nil, List.map_cons, List.map_nil, List.getElem?_cons_zero, List.getElem?_cons_succ, List.set_cons_zero, List.set_cons_succ, List.cons_append, List.nil_append, List.append_nil, List.replicate_succ, List.replicate_zero, Nat.reduceAdd, Nat.reduceSub, ↓reduceIte, Bool.false_eq_true, reduceCtorEq, true_and, and_true, true_or, or_true, false_or, or_false, Bool.not_true, Bool.not_false, Bool.true_and, Bool.false_and, Bool.and_true, decide_eq_true_eq, Bool.not_eq_eq_eq_not, exists_eq_left, exists_eq_left', Option.some.injEq]
        exact hr
  · unfold readHeapsF at hr
    rw [if_neg c] at hr
    simp only [c, decide_false, startS, List.length_cons, List.length_nil, List.map_cons, List.map_nil, List.getElem?_cons_zero, List.getElem?_cons_succ, List.set_cons_zero, List.set_cons_succ, List.cons_append, List.nil_append, List.append_nil, List.replicate_succ, List.replicate_zero, Nat.reduceAdd, Nat.reduceSub, ↓reduceIte, Bool.false_eq_true, reduceCtorEq, true_and, and_true, true_or, or_true, false_or, or_false, Bool.not_true, Bool.not_false, Bool.true_and, Bool.false_and, Bool.and_true, decide_eq_true_eq, Bool.not_eq_eq_eq_not, exists_eq_left, exists_eq_left', Option.some.injEq, bl?, g2, gAdd, gDiv, gEq, gGe, gGt, gI, gIn, gInt, gIs, gIsNot, gLe, gLen, gList, gLt, gMM, gMod, gMul, gMulS, gNe, gNotIn, gPow, gSorted, gSub, gIadd, gSum, gTuple, puts, sV, sVs, slotM, wAnd, wApp, wAsg, wAug, wAugI, wB, wC, wCall, wCallR, wChain, wCons, wDraw, wDrop, wEnL, wEnT, wExt, wFn, wFnO, wFor, wGCons, wGNil, wGT, wIL, wIT, wIdx, wIf, wIfS, wIsi, wIx, wLc, wLst, wMNil, wMO, wMV, wMix, wN, wNeg, wNil, wNot, wNotT, wO, wOp, wOr, wOwn, wPar, wR1, wR2, wRaise, wRaiseF, wRet, wSeq, wSet, wSetI, wSkip, wTAnd, wTNot, wTOr, wTru, wTry, wTryF, wTup, wV, wYes, wSplit, wJoin, wRstrip, wFmt, wJNil, wJCons, wJs, gStr, gIntS, wIS, gSignNotIn, wSl, wSlt, wPn, wPs, gMulT, wGL, wTryAs, wXf, wXis, wCat, wCatV, wIxV]
    simpa [sVs, sV, res] using hr
def readStepF (ws : List (List Nat)) (line count : Nat) : Except (Nat × Nat) (Nat × Nat) :=
  if ws.take 1 = [sW] then match numAt ws 1 ((count : Int) - 1) with
    | none => .error (line, 2)
    | some a => match numAt ws 2 ((count : Int) - 1) with
      | none => .error (line, 3)
      | some b => if a = b then .error (line, 3) else if 3 < ws.length then .error (line, 4) else .ok (a, b)
  else .error (line, 1)
def sp_read_step : Spc := fun ds A B => ∃ (ws : List (List Nat)) (line count : Nat), ds = [eR ws, .int line, .int count] ∧ okWs ws ∧ ws.length ≤ 1000000 ∧ res (readStepF ws line count) (fun s => A (eP s)) B
def w_read_step_1 : WS :=
    (wIfS (wB (wOp gNe (wO (wSl (wV 0) wPn (wPs (wC (.int 1))))) (wO (wLst (wCons (wC (.str "step")) wNil))))) (wRaiseF "InvalidText" ["line", "word"] (wCons (wV 1) (wCons (wC (.int 1)) wNil))) wSkip)
def w_read_step_2 : WS :=
    (wSet 3 (wCall sp_number_at (wCons (wV 0) (wCons (wV 1) (wCons (wC (.int 1)) (wCons (wOp gSub (wV 2) (wC (.int 1))) wNil))))))
def w_read_step_3 : WS :=
    (wSet 4 (wCall sp_number_at (wCons (wV 0) (wCons (wV 1) (wCons (wC (.int 2)) (wCons (wOp gSub (wV 2) (wC (.int 1))) wNil))))))
def w_read_step_4 : WS :=
    (wIfS (wB (wOp gEq (wV 3) (wV 4))) (wRaiseF "InvalidText" ["line", "word"] (wCons (wV 1) (wCons (wC (.int 3)) wNil))) wSkip)
def w_read_step_5 : WS :=
    (wIfS (wB (wOp gGt (wFn gLen (wCons (wV 0) wNil)) (wC (.int 3)))) (wRaiseF "InvalidText" ["line", "word"] (wCons (wV 1) (wCons (wC (.int 4)) wNil))) wSkip)
def w_read_step_6 : WS :=
    (wRet (wTup (wCons (wV 3) (wCons (wV 4) wNil))))
def w_read_step : WS :=
    (wSeq w_read_step_1
    (wSeq w_read_step_2
    (wSeq w_read_step_3
    (wSeq w_read_step_4
    (wSeq w_read_step_5
    w_read_step_6)))))
theorem pure_read_step : Pure 5 3 sp_read_step w_read_step := by
  rintro ds A B - ⟨ws, line, count, rfl, hw, hl, hr⟩
  have sh : SeqAt.shaped (.list [.str ("step" : Str)]) = true := by rw [mk_step]; exact shaped_eR (ws := [sW]) fun w hw => by rw [List.mem_singleton.mp hw]; exact asT_small (by decide)
  have st : SeqAt.shaped (.list ((ws.take 1).map eW)) = true := shaped_eR fun w h => (hw w (List.mem_of_mem_take h)).2.2
  have eh : PyData.eqv (.list ((ws.take 1).map eW)) (.list [.str ("step" : Str)]) = decide (ws.take 1 = [sW]) := by rw [mk_step]; exact eqv_words (ws.take 1) [sW]
  simp only [w_read_step, w_read_step_1, bl?, g2, gAdd, gDiv, gEq, gGe, gGt, gI, gIn, gInt, gIs, gIsNot, gLe, gLen, gList, gLt, gMM, gMod, gMul, gMulS, gNe, gNotIn, gPow, gSorted, gSub, gIadd, gSum, gTuple, puts, sV, sVs, slotM, wAnd, wApp, wAsg, wAug, wAugI, wB, wC, wCall, wCallR, wChain, wCons, wDraw, wDrop, wEnL, wEnT, wExt, wFn, wFnO, wFor, wGCons, wGNil, wGT, wIL, wIT, wIdx, wIf, wIfS, wIsi, wIx, wLc, wLst, wMNil, wMO, wMV, wMix, wN, wNeg, wNil, wNot, wNotT, wO, wOp, wOr, wOwn, wPar, wR1, wR2, wRaise, wRaiseF, wRet, wSeq, wSet, wSetI, wSkip, wTAnd, wTNot, wTOr, wTru, wTry, wTryF, wTup, wV, wYes, wSplit, wJoin, wRstrip, wFmt, wJNil, wJCons, wJs, gStr, gIntS, wIS, gSignNotIn, wSl, wSlt, wPn, wPs, gMulT, wGL, wTryAs, wXf, wXis, wCat, wCatV, wIxV, startS, List.length_cons, List.length_nil, List.map_cons, List.map_nil, List.getElem?_cons_zero, List.getElem?_cons_succ, List.set_cons_zero, List.set_cons_succ, List.cons_append, List.nil_append, List.append_nil, List.replicate_succ, List.replicate_zero, Nat.reduceAdd, Nat.reduceSub, ↓reduceIte, Bool.false_eq_true, reduceCtorEq, true_and, and_true, true_or, or_true, false_or, or_false, Bool.not_true, Bool.not_false, Bool.true_and, Bool.false_and, Bool.and_true, decide_eq_true_eq, Bool.not_eq_eq_eq_not, exists_eq_left, exists_eq_left', Option.some.injEq, eR, cut_take1, sh, st, eh]
  refine ⟨by decide, ?_⟩
  unfold readStepF at hr
  by_cases c : ws.take 1 = [sW]
  · rw [if_pos c] at hr
    simp only [c, decide_true, startS, List.length_cons, List.length_nil, List.map_cons, List.map_nil, List.getElem?_cons_zero, List.getElem?_cons_succ, List.set_cons_zero, List.set_cons_succ, List.cons_append, List.nil_append, List.append_nil, List.replicate_succ, List.replicate_zero, Nat.reduceAdd, Nat.reduceSub, ↓reduceIte, Bool.false_eq_true, reduceCtorEq, true_and, and_true, true_or, or_true, false_or, or_false, Bool.not_true, Bool.not_false, Bool.true_and, Bool.false_and, Bool.and_true, decide_eq_true_eq, Bool.not_eq_eq_eq_not, exists_eq_left, exists_eq_left', Option.some.injEq, w_read_step_2, bl?, g2, gAdd, gDiv, gEq, gGe, gGt, gI, gIn, gInt, gIs, gIsNot, gLe, gLen, gList, gLt, gMM, gMod, gMul, gMulS, gNe, gNotIn, gPow, gSorted, gSub, gIadd, gSum, gTuple, puts, sV, sVs, slotM, wAnd, wApp, wAsg, wAug, wAugI, wB, wC, wCall, wCallR, wChain, wCons, wDraw, wDrop, wEnL, wEnT, wExt, wFn, wFnO, wFor, wGCons, wGNil, wGT, wIL, wIT, wIdx, wIf, wIfS, wIsi, wIx, wLc, wLst, wMNil, wMO, wMV, wMix, wN, wNeg, wNil, wNot, wNotT, wO, wOp, wOr, wOwn, wPar, wR1, wR2, wRaise, wRaiseF, wRet, wSeq, wSet, wSetI, wSkip, wTAnd, wTNot, wTOr, wTru, wTry, wTryF, wTup, wV, wYes, wSplit, wJoin, wRstrip, wFmt, wJNil, wJCons, wJs, gStr, gIntS, wIS, gSignNotIn, wSl, wSlt, wPn, wPs, gMulT, wGL, wTryAs, wXf, wXis, wCat, wCatV, wIxV]
    refine num_use (p := 1) hw (fun a ha => ?_) fun ha => ?_
    · rw [ha] at hr
      dsimp only at hr
      simp only [startS, List.length_cons, List.length_nil, List.map_cons, List.map_nil, List.getElem?_cons_zero, List.getElem?_cons_succ, List.set_cons_zero, List.set_cons_succ, List.cons_append, List.nil_append, List.append_nil, List.replicate_succ, List.replicate_zero, Nat.reduceAdd, Nat.reduceSub, ↓reduceIte, Bool.false_eq_true, reduceCtorEq, true_and, and_true, true_or, or_true, false_or, or_false, Bool.not_true, Bool.not_false, Bool.true_and, Bool.false_and, Bool.and_true, decide_eq_true_eq, Bool.not_eq_eq_eq_not, exists_eq_left, exists_eq_left', Option.some.injEq, flat, w_read_step_3, bl?, g2, gAdd, gDiv, gEq, gGe, gGt, gI, gIn, gInt, gIs, gIsNot, gLe, gLen, gList, gLt, gMM, gMod, gMul, gMulS, gNe, gNotIn, gPow, gSorted, gSub, gIadd, gSum, gTuple, puts, sV, sVs, slotM, wAnd, wApp, wAsg, wAug, wAugI, wB, wC, wCall, wCallR, wChain, wCons, wDraw, wDrop, wEnL, wEnT, wExt, wFn, wFnO, wFor, wGCons, wGNil, wGT, wIL, wIT, wIdx, wIf, wIfS, wIsi, wIx, wLc, wLst, wMNil, wMO, wMV, wMix, wN, wNeg, wNil, wNot, wNotT, wO, wOp, wOr, wOwn, wPar, wR1, wR2, wRaise, wRaiseF, wRet, wSeq, wSet, wSetI, wSkip, wTAnd, wTNot, wTOr, wTru, wTry, wTryF, wTup, wV, wYes, wSplit, wJoin, wRstrip, wFmt, wJNil, wJCons, wJs, gStr, gIntS, wIS, gSignNotIn, wSl, wSlt, wPn, wPs, gMulT, wGL, wTryAs, wXf, wXis, wCat, wCatV, wIxV]
      refine num_use (p := 2) hw (fun b hb => ?_) fun hb => ?_
      · rw [hb] at hr
        dsimp only at hr
        simp only [startS, List.length_cons, List.length_nil, List.map_cons, List.map_nil, List.getElem?_cons_zero, List.getElem?_cons_succ, List.set_cons_zero, List.set_cons_succ, List.cons_append, List.nil_append, List.append_nil, List.replicate_succ, List.replicate_zero, Nat.reduceAdd, Nat.reduceSub, ↓reduceIte, Bool.false_eq_true, reduceCtorEq, true_and, and_true, true_or, or_true, false_or, or_false, Bool.not_true, Bool.not_false, Bool.true_and, Bool.false_and, Bool.and_true, decide_eq_true_eq, Bool.not_eq_eq_eq_not, exists_eq_left, exists_eq_left', Option.some.injEq, flat, w_read_step_4, bl?, g2, gAdd, gDiv, gEq, gGe, gGt, gI, gIn, gInt, gIs, gIsNot, gLe, gLen, gList, gLt, gMM, gMod, gMul, gMulS, gNe, gNotIn, gPow, gSorted, gSub, gIadd, gSum, gTuple, puts, sV, sVs, slotM, wAnd, wApp, wAsg, wAug, wAugI, wB, wC, wCall, wCallR, wChain, wCons, wDraw, wDrop, wEnL, wEnT, wExt, wFn, wFnO, wFor, wGCons, wGNil, wGT, wIL, wIT, wIdx, wIf, wIfS, wIsi, wIx, wLc, wLst, wMNil, wMO, wMV, wMix, wN, wNeg, wNil, wNot, wNotT, wO, wOp, wOr, wOwn, wPar, wR1, wR2, wRaise, wRaiseF, wRet, wSeq, wSet, wSetI, wSkip, wTAnd, wTNot, wTOr, wTru, wTry, wTryF, wTup, wV, wYes, wSplit, wJoin, wRstrip, wFmt, wJNil, wJCons, wJs, gStr, gIntS, wIS, gSignNotIn, wSl, wSlt, wPn, wPs, gMulT, wGL, wTryAs, wXf, wXis, wCat, wCatV, wIxV, shaped_int, eqv_int, List.length_map]
        by_cases e : a = b
        · have e' : (a : Int) = b := by omega
          rw [if_pos e] at hr
          simp only [e', decide_true, startS, List.length_cons, List.length_nil, List.map_cons, List.map_nil, List.getElem?_cons_zero, List.getElem?_cons_succ, List.set_cons_zero, List.set_cons_succ, List.cons_append, List.nil_append, List.append_nil, List.replicate_succ, List.replicate_zero, Nat.reduceAdd, Nat.reduceSub, ↓reduceIte, Bool.false_eq_true, reduceCtorEq, true_and, and_true, true_or, or_true, false_or, or_false, Bool.not_true, Bool.not_false, Bool.true_and, Bool.false_and, Bool.and_true, decide_eq_true_eq, Bool.not_eq_eq_eq_not, exists_eq_left, exists_eq_left', Option.some.injEq, bl?, g2, gAdd, gDiv, gEq, gGe, gGt, gI, gIn, gInt, gIs, gIsNot, gLe, gLen, gList, gLt, gMM, gMod, gMul, gMulS, gNe, gNotIn, gPow, gSorted, gSub, gIadd, gSum, gTuple, puts, sV, sVs, slotM, wAnd, wApp, wAsg, wAug, wAugI, wB, wC, wCall, wCallR, wChain, wCons, wDraw, wDrop, wEnL, wEnT, wExt, wFn, wFnO, wFor, wGCons, wGNil, wGT, wIL, wIT, wIdx, wIf, wIfS, wIsi, wIx, wLc, wLst, wMNil, wMO, wMV, wMix, wN, wNeg, wNil, wNot, wNotT, wO, wOp, wOr, wOwn, wPar, wR1, wR2, wRaise, wRaiseF, wRet, wSeq, wSet, wSetI, wSkip, wTAnd, wTNot, wTOr, wTru, wTry, wTryF, wTup, wV, wYes, wSplit, wJoin, wRstrip, wFmt, wJNil, wJCons, wJs, gStr, gIntS, wIS, gSignNotIn, wSl, wSlt, wPn, wPs, gMulT, wGL, wTryAs, wXf, wXis, wCat, wCatV, wIxV]
          simpa [sVs, sV, res] using hr
        · have e' : ¬ (a : Int) = b := by omega
          rw [if_neg e] at hr
          simp only [e', decide_false, startS, List.length_cons, List.length_nil, List.map_cons, List.map_nil, List.getElem?_cons_zero, List.getElem?_cons_succ, List.set_cons_zero, List.set_cons_succ, List.cons_append, List.nil_append, List.append_nil, List.replicate_succ, List.replicate_zero, Nat.reduceAdd, Nat.reduceSub, ↓reduceIte, Bool.false_eq_true, reduceCtorEq, true_and, and_true, true_or, or_true, false_or, or_false, Bool.not_true, Bool.not_false, Bool.true_and, Bool.false_and, Bool.and_true, decide_eq_true_eq, Bool.not_eq_eq_eq_not, exists_eq_left, exists_eq_left', Option.some.injEq, bl?, g2, gAdd, gDiv, gEq, gGe, gGt, gI, gIn, gInt, gIs, gIsNot, gLe, gLen, gList, gLt, gMM, gMod, gMul, gMulS, gNe, gNotIn, gPow, gSorted, gSub, gIadd, gSum, gTuple, puts, sV, sVs, slotM, wAnd, wApp, wAsg, wAug, wAugI, wB, wC, wCall, wCallR, wChain, wCons, wDraw, wDrop, wEnL, wEnT, wExt, wFn, wFnO, wFor, wGCons, wGNil, wGT, wIL, wIT, wIdx, wIf, wIfS, wIsi, wIx, wLc, wLst, wMNil, wMO, wMV, wMix, wN, wNeg, wNil, wNot, wNotT, wO, wOp, wOr, wOwn, wPar, wR1, wR2, wRaise, wRaiseF, wRet, wSeq, wSet, wSetI, wSkip, wTAnd, wTNot, wTOr, wTru, wTry, wTryF, wTup, wV, wYes, wSplit, wJoin, wRstrip, wFmt, wJNil, wJCons, wJs, gStr, gIntS, wIS, gSignNotIn, wSl, wSlt, wPn, wPs, gMulT, wGL, wTryAs, wXf, wXis, wCat, wCatV, wIxV, w_read_step_5, w_read_step_6, List.length_map]
          by_cases c3 : 3 < ws.length
          · have c3' : (3 : Int) < ws.length := by omega
            rw [if_pos c3] at hr
            simp only [c3', decide_true, startS, List.length_cons, List.length_nil, List.map_cons, List.map_nil, List.getElem?_cons_zero, List.getElem?_cons_succ, List.set_cons_zero, List.set_cons_succ, List.cons_append, List.nil_append, List.append_nil, List.replicate_succ, List.replicate_zero, Nat.reduceAdd, Nat.reduceSub, ↓reduceIte, Bool.false_eq_true, reduceCtorEq, true_and, and_true, true_or, or_true, false_or, or_false, Bool.not_true, Bool.not_false, Bool.true_and, Bool.false_and, Bool.and_true, decide_eq_true_eq, Bool.not_eq_eq_eq_not, exists_eq_left, exists_eq_left', Option.some.injEq, bl?, g2, gAdd, gDiv, gEq, gGe, gGt, gI, gIn, gInt, gIs, gIsNot, gLe, gLen, gList, gLt, gMM, gMod, gMul, gMulS, gNe, gNotIn, gPow, gSorted, gSub, gIadd, gSum, gTuple, puts, sV, sVs, slotM, wAnd, wApp, wAsg, wAug, wAugI, wB, wC, wCall, wCallR, wChain, wCons, wDraw, wDrop, wEnL, wEnT, wExt, wFn, wFnO, wFor, wGCons, wGNil, wGT, wIL, wIT, wIdx, wIf, wIfS, wIsi, wIx, wLc, wLst, wMNil, wMO, wMV, wMix, wN, wNeg, wNil, wNot, wNotT, wO, wOp, wOr, wOwn, wPar, wR1, wR2, wRaise, wRaiseF, wRet, wSeq, wSet, wSetI, wSkip, wTAnd, wTNot, wTOr, wTru, wTry, wTryF, wTup, wV, wYes, wSplit, wJoin, wRstrip, wFmt, wJNil, wJCons, wJs, gStr, gIntS, wIS, gSignNotIn, wSl, wSlt, wPn, wPs, gMulT, wGL, wTryAs, wXf, wXis, wCat, wCatV, wIxV]
            simpa [sVs, sV, res] using hr
          · have c3' : ¬ (3 : Int) < ws.length := by omega
            rw [if_neg c3] at hr
            simp only [c3', decide_false, startS, List.length_cons, List.length_nil, List.map_cons, List.map_nil, List.getElem?_cons_zero, List.getElem?_cons_succ, List.set_cons_zero, List.set_cons_succ, List.cons_append, List.nil_append, List.append_nil, List.replicate_succ, List.replicate_zero, Nat.reduceAdd, Nat.reduceSub, ↓reduceIte, Bool.false_eq_true, reduceCtorEq, true_and, and_true, true_or, or_true, false_or, or_false, Bool.not_true, Bool.not_false, Bool.true_and, Bool.false_and, Bool.and_true, decide_eq_true_eq, Bool.not_eq_eq_eq_not, exists_eq_left, exists_eq_left', Option.some.injEq, bl?, g2, gAdd, gDiv, gEq, gGe, gGt, gI, gIn, gInt, gIs, gIsNot, gLe, gLen, gList, gLt, gMM, gMod, gMul, gMulS, gNe, gNotIn, gPow, gSorted, gSub, gIadd, gSum, gTuple, puts, sV, sVs, slotM, wAnd, wApp, wAsg, wAug, wAugI, wB, wC, wCall, wCallR, wChain, wCons, wDraw, wDrop, wEnL, wEnT, wExt, wFn, wFnO, wFor, wGCons, wGNil, wGT, wIL, wIT, wIdx, wIf, wIfS, wIsi, wIx, wLc, wLst, wMNil, wMO, wMV, wMix, wN, wNeg, wNil, wNot, wNotT, wO, wOp, wOr, wOwn, wPar, wR1, wR2, wRaise, wRaiseF, wRet, wSeq, wSet, wSetI, wSkip, wTAnd, wTNot, wTOr, wTru, wTry, wTryF, wTup, wV, wYes, wSplit, wJoin, wRstrip, wFmt, wJNil, wJCons, wJs, gStr, gIntS, wIS, gSignNotIn, wSl, wSlt, wPn, wPs, gMulT, wGL, wTryAs, wXf, wXis, wCat, wCatV, wIxV]
            exact ⟨by decide, hr⟩
      · rw [hb] at hr
        exact hr
    · rw [ha] at hr
      exact hr
  · rw [if_neg c] at hr
    simp only [c, decide_false, startS, List.length_cons, List.length_nil, List.map_cons, List.map_nil, List.getElem?_cons_zero, List.getElem?_cons_succ, List.set_cons_zero, List.set_cons_succ, List.cons_append, List.nil_append, List.append_nil, List.replicate_succ, List.replicate_zero, Nat.reduceAdd, Nat.reduceSub, ↓reduceIte, Bool.false_eq_true, reduceCtorEq, true_and, and_true, true_or, or_true, false_or, or_false, Bool.not_true, Bool.not_false, Bool.true_and, Bool.false_and, Bool.and_true, decide_eq_true_eq, Bool.not_eq_eq_eq_not, exists_eq_left, exists_eq_left', Option.some.injEq, bl?, g2, gAdd, gDiv, gEq, gGe, gGt, gI, gIn, gInt, gIs, gIsNot, gLe, gLen, gList, gLt, gMM, gMod, gMul, gMulS, gNe, gNotIn, gPow, gSorted, gSub, gIadd, gSum, gTuple, puts, sV, sVs, slotM, wAnd, wApp, wAsg, wAug, wAugI, wB, wC, wCall, wCallR, wChain, wCons, wDraw, wDrop, wEnL, wEnT, wExt, wFn, wFnO, wFor, wGCons, wGNil, wGT, wIL, wIT, wIdx, wIf, wIfS, wIsi, wIx, wLc, wLst, wMNil, wMO, wMV, wMix, wN, wNeg, wNil, wNot, wNotT, wO, wOp, wOr, wOwn, wPar, wR1, wR2, wRaise, wRaiseF, wRet, wSeq, wSet, wSetI, wSkip, wTAnd, wTNot, wTOr, wTru, wTry, wTryF, wTup, wV, wYes, wSplit, wJoin, wRstrip, wFmt, wJNil, wJCons, wJs, gStr, gIntS, wIS, gSignNotIn, wSl, wSlt, wPn, wPs, gMulT, wGL, wTryAs, wXf, wXis, wCat, wCatV, wIxV]
    simpa [sVs, sV, res] using hr
/-! the whole text -/
theorem spl_mem (S : List Nat) : ∀ (l : List Nat) (k : Nat) (acc : List Nat), (∀ p ∈ spl S k acc l, p.length ≤ acc.length + l.length ∧ ∀ c ∈ p, c ∈ acc ∨ c ∈ l) ∧ (spl S k acc l).length ≤ l.length + 1
  | [], k, acc => by
    rw [spl_nil]
    refine ⟨fun p hp => ?_, Nat.le_refl _⟩
    rw [List.mem_singleton.mp hp]
    exact ⟨Nat.le_refl _, fun c hc => .inl hc⟩
  | x :: l, k + 1, acc => by
    have h := spl_mem S l k acc
    refine ⟨fun p hp => ?_, by have := h.2; rw [List.length_cons]; exact Nat.le_succ_of_le this⟩
    obtain ⟨h1, h2⟩ := h.1 p hp
    exact ⟨by rw [List.length_cons]; omega, fun c hc => (h2 c hc).imp id fun z => List.mem_cons_of_mem _ z⟩
  | x :: l, 0, acc => by
    cases hh : pre S (x :: l) with
    | true =>
      rw [spl_hit hh]
      have h := spl_mem S l (S.length - 1) []
      refine ⟨fun p hp => ?_, by rw [List.length_cons, List.length_cons]; have := h.2; omega⟩
      rcases List.mem_cons.mp hp with z | z
      · rw [z]
        exact ⟨Nat.le_add_right _ _, fun c hc => .inl hc⟩
      · obtain ⟨h1, h2⟩ := h.1 p z
        rw [List.length_nil] at h1
        exact ⟨by rw [List.length_cons]; omega, fun c hc => .inr ((h2 c hc).elim (fun q => by cases q) fun q => List.mem_cons_of_mem _ q)⟩
    | false =>
      rw [spl_miss hh]
      have h := spl_mem S l 0 (acc ++ [x])
      refine ⟨fun p hp => ?_, by rw [List.length_cons]; have := h.2; omega⟩
      obtain ⟨h1, h2⟩ := h.1 p hp
      rw [List.length_append, List.length_singleton] at h1
      refine ⟨by rw [List.length_cons]; omega, fun c hc => ?_⟩
      rcases h2 c hc with q | q
      · rcases List.mem_append.mp q with q | q
        · exact .inl q
        · exact .inr (by rw [List.mem_singleton.mp q]; exact List.mem_cons_self)
      · exact .inr (List.mem_cons_of_mem _ q)
theorem spl1_mem {s : Nat} {l p : List Nat} (h : p ∈ spl1 s l) : p.length ≤ l.length ∧ ∀ c ∈ p, c ∈ l := by
  obtain ⟨h1, h2⟩ := (spl_mem [s] l 0 []).1 p h
  rw [List.length_nil] at h1
  exact ⟨by omega, fun c hc => (h2 c hc).elim (fun q => by cases q) id⟩
theorem spl1_len (s : Nat) (l : List Nat) : (spl1 s l).length ≤ l.length + 1 := (spl_mem [s] l 0 []).2
theorem spl1_ne (s : Nat) (l : List Nat) : spl1 s l ≠ [] := fun h => by
  have h1 := split_one (mkS l) (mkS [s]) (s := s) rfl
  have h2 := StrLaws.join_split (mkS l) (mkS [s])
  unfold spl1 at h
  have : ∀ (l acc : List Nat) (k : Nat), spl [s] k acc l ≠ [] := by
    intro l
    induction l with
    | nil => intro acc k z; rw [spl_nil] at z; cases z
    | cons x r ih =>
      intro acc k
      cases k with
      | succ k => exact ih acc k
      | zero =>
        cases hh : pre [s] (x :: r) with
        | true => rw [spl_hit hh]; exact fun z => by cases z
        | false => rw [spl_miss hh]; exact ih _ _
  exact this _ _ _ h
def rowsOf (l : List Nat) : List (List (List Nat)) := (spl1 10 l).map wds
theorem okWs_wds {l : List Nat} (hl : l.length ≤ 1000000) (ha : asT l) : okWs (wds l) := fun w hw => by
  unfold wds at hw
  obtain ⟨h1, h2⟩ := List.mem_filter.mp hw
  obtain ⟨h3, h4⟩ := spl1_mem h1
  exact ⟨of_decide_eq_true h2, by omega, fun c hc => ha c (h4 c hc)⟩
theorem wds_len (l : List Nat) : (wds l).length ≤ l.length + 1 := Nat.le_trans (List.length_filter_le _ _) (spl1_len 32 l)
def rpLoop (count : Nat) : List (List (List Nat)) → Nat → List (Nat × Nat) → Except (Nat × Nat) (List (Nat × Nat))
  | [], _, acc => .ok acc
  | r :: rs, i, acc => if acc.length = 20000 then .error (i + 2, 1) else match readStepF r (i + 2) count with
    | .error e => .error e
    | .ok s => rpLoop count rs (i + 1) (acc ++ [s])
def readPlanF (rows : List (List (List Nat))) : Except (Nat × Nat) (List Nat × List (Nat × Nat)) := match rows with
  | [] => .error (0, 0)
  | r :: rs => match readHeapsF r with
    | .error e => .error e
    | .ok h => match rpLoop h.length rs 0 [] with
      | .error e => .error e
      | .ok p => .ok (h, p)
def sp_read_plan : Spc := fun ds A B => ∃ l : List Nat, ds = [eW l] ∧ l.length ≤ 900000 ∧ asT l ∧ res (readPlanF (rowsOf l)) (fun v => A (.tuple [eH (eNs v.1), eL v.2])) B
def w_read_plan_1 : WS :=
    (wSet 1 (wO (wLc (wIL (wO (wSplit (wV 0) (wC (.str "\n"))))) (wN 3) wYes (wO (wLc (wIL (wO (wSplit (wV 3) (wC (.str " "))))) (wN 2) (wB (wOp gNe (wV 2) (wC (.str "")))) (wV 2) [2])) [3])))
def w_read_plan_2 : WS :=
    (wSet 4 (wCall sp_read_heaps (wCons (wIx (wV 1) (wC (.int 0))) wNil)))
def w_read_plan_3 : WS :=
    (wOwn 5 (wLst wNil))
def w_read_plan_4_1 : WS :=
    (wIfS (wB (wOp gEq (wFn gLen (wCons (wV 5) wNil)) (wC (.int 20000)))) (wRaiseF "InvalidText" ["line", "word"] (wCons (wOp gAdd (wV 6) (wC (.int 2))) (wCons (wC (.int 1)) wNil))) wSkip)
def w_read_plan_4_2 : WS :=
    (wApp 5 (wCall sp_read_step (wCons (wV 7) (wCons (wOp gAdd (wV 6) (wC (.int 2))) (wCons (wFn gLen (wCons (wV 4) wNil)) wNil)))))
def w_read_plan_4 : WS :=
    (wFor (wEnL (wO (wSl (wV 1) (wPs (wC (.int 1))) wPn))) (wGT 2 (wGCons (wN 6) (wGCons (wN 7) wGNil))) (wSeq w_read_plan_4_1
    w_read_plan_4_2))
def w_read_plan_5 : WS :=
    (wRet (wTup (wCons (wV 4) (wCons (wFn gTuple (wCons (wV 5) wNil)) wNil))))
def w_read_plan : WS :=
    (wSeq w_read_plan_1
    (wSeq w_read_plan_2
    (wSeq w_read_plan_3
    (wSeq w_read_plan_4
    w_read_plan_5))))
theorem tl_nl : tl ("\n" : Str) = [10] := by decide +kernel
theorem tl_sp : tl (" " : Str) = [32] := by decide +kernel
theorem mk_nl : ("\n" : Str) = mkS [10] := by rw [str_eq, tl_nl, tl_mkS]
theorem mk_sp : (" " : Str) = mkS [32] := by rw [str_eq, tl_sp, tl_mkS]
theorem mk_em : ("" : Str) = mkS [] := by rw [str_eq, tl_mkS]; decide +kernel
theorem split_nl (l : List Nat) : (Txt.split (mkS l) "\n").map PyData.str = (spl1 10 l).map eW := by
  rw [split_one (mkS l) _ tl_nl (by decide), List.map_map, tl_mkS]
  rfl
theorem split_sp (l : List Nat) : (Txt.split (mkS l) " ").map PyData.str = (spl1 32 l).map eW := by
  rw [split_one (mkS l) _ tl_sp (by decide), List.map_map, tl_mkS]
  rfl
theorem len_nl : (("\n" : Str).length == 0) = false := by decide +kernel
theorem len_sp : ((" " : Str).length == 0) = false := by decide +kernel
theorem pure_read_plan : Pure 8 1 sp_read_plan w_read_plan := by
  rintro ds A B - ⟨l, rfl, hl, ha, hr⟩
  have hl2 : l.length + 2 ≤ sizeLine := by rw [sizeLine_eq]; omega
  have sh0 : SeqAt.shaped (.str ("" : Str)) = true := by rw [mk_em]; exact shaped_eW (w := []) fun c hc => by cases hc
  simp only [w_read_plan, w_read_plan_1, bl?, g2, gAdd, gDiv, gEq, gGe, gGt, gI, gIn, gInt, gIs, gIsNot, gLe, gLen, gList, gLt, gMM, gMod, gMul, gMulS, gNe, gNotIn, gPow, gSorted, gSub, gIadd, gSum, gTuple, puts, sV, sVs, slotM, wAnd, wApp, wAsg, wAug, wAugI, wB, wC, wCall, wCallR, wChain, wCons, wDraw, wDrop, wEnL, wEnT, wExt, wFn, wFnO, wFor, wGCons, wGNil, wGT, wIL, wIT, wIdx, wIf, wIfS, wIsi, wIx, wLc, wLst, wMNil, wMO, wMV, wMix, wN, wNeg, wNil, wNot, wNotT, wO, wOp, wOr, wOwn, wPar, wR1, wR2, wRaise, wRaiseF, wRet, wSeq, wSet, wSetI, wSkip, wTAnd, wTNot, wTOr, wTru, wTry, wTryF, wTup, wV, wYes, wSplit, wJoin, wRstrip, wFmt, wJNil, wJCons, wJs, gStr, gIntS, wIS, gSignNotIn, wSl, wSlt, wPn, wPs, gMulT, wGL, wTryAs, wXf, wXis, wCat, wCatV, wIxV, startS, List.length_cons, List.length_nil, List.map_cons, List.map_nil, List.getElem?_cons_zero, List.getElem?_cons_succ, List.set_cons_zero, List.set_cons_succ, List.cons_append, List.nil_append, List.append_nil, List.replicate_succ, List.replicate_zero, Nat.reduceAdd, Nat.reduceSub, ↓reduceIte, Bool.false_eq_true, reduceCtorEq, true_and, and_true, true_or, or_true, false_or, or_false, Bool.not_true, Bool.not_false, Bool.true_and, Bool.false_and, Bool.and_true, decide_eq_true_eq, Bool.not_eq_eq_eq_not, exists_eq_left, exists_eq_left', Option.some.injEq, eW, len_nl, len_mkS, hl2, List.all_cons, List.all_nil, notRng, isMut]
  rw [split_nl]
  have hlen := spl1_len 10 l
  refine lc_ok eW (fun _ => true) (fun q => eR (wds q)) (spl1 10 l) [] True (fun q hq Yes No hy hno => ?_) (by simp; omega) trivial fun c' hc' => ?_
  · obtain ⟨h1, h2⟩ := spl1_mem hq
    have hq2 : q.length + 2 ≤ sizeLine := by rw [sizeLine_eq]; omega
    simp only [bl?, g2, gAdd, gDiv, gEq, gGe, gGt, gI, gIn, gInt, gIs, gIsNot, gLe, gLen, gList, gLt, gMM, gMod, gMul, gMulS, gNe, gNotIn, gPow, gSorted, gSub, gIadd, gSum, gTuple, puts, sV, sVs, slotM, wAnd, wApp, wAsg, wAug, wAugI, wB, wC, wCall, wCallR, wChain, wCons, wDraw, wDrop, wEnL, wEnT, wExt, wFn, wFnO, wFor, wGCons, wGNil, wGT, wIL, wIT, wIdx, wIf, wIfS, wIsi, wIx, wLc, wLst, wMNil, wMO, wMV, wMix, wN, wNeg, wNil, wNot, wNotT, wO, wOp, wOr, wOwn, wPar, wR1, wR2, wRaise, wRaiseF, wRet, wSeq, wSet, wSetI, wSkip, wTAnd, wTNot, wTOr, wTru, wTry, wTryF, wTup, wV, wYes, wSplit, wJoin, wRstrip, wFmt, wJNil, wJCons, wJs, gStr, gIntS, wIS, gSignNotIn, wSl, wSlt, wPn, wPs, gMulT, wGL, wTryAs, wXf, wXis, wCat, wCatV, wIxV, startS, List.length_cons, List.length_nil, List.map_cons, List.map_nil, List.getElem?_cons_zero, List.getElem?_cons_succ, List.set_cons_zero, List.set_cons_succ, List.cons_append, List.nil_append, List.append_nil, List.replicate_succ, List.replicate_zero, Nat.reduceAdd, Nat.reduceSub, ↓reduceIte, Bool.false_eq_true, reduceCtorEq, true_and, and_true, true_or, or_true, false_or, or_false, Bool.not_true, Bool.not_false, Bool.true_and, Bool.false_and, Bool.and_true, decide_eq_true_eq, Bool.not_eq_eq_eq_not, exists_eq_left, exists_eq_left', Option.some.injEq, wipeS, eW, flat, len_sp, len_mkS, hq2, List.all_cons, List.all_nil, notRng, isMut]
    rw [split_sp]
    have hqlen := spl1_len 32 q
    refine lc_ok eW (fun w => decide (w ≠ [])) eW (spl1 32 q) [] True (fun w hw Yes2 No2 hy2 hno2 => ?_) (by simp; omega) trivial fun c2 hc2 => ?_
    · obtain ⟨g1, g2⟩ := spl1_mem hw
      have sw : SeqAt.shaped (.str (mkS w)) = true := shaped_eW fun c hc => ha c (h2 c (g2 c hc))
      have ew : PyData.eqv (.str (mkS w)) (.str ("" : Str)) = decide (w = []) := by rw [mk_em]; exact eqv_eW w []
      simp only [bl?, g2, gAdd, gDiv, gEq, gGe, gGt, gI, gIn, gInt, gIs, gIsNot, gLe, gLen, gList, gLt, gMM, gMod, gMul, gMulS, gNe, gNotIn, gPow, gSorted, gSub, gIadd, gSum, gTuple, puts, sV, sVs, slotM, wAnd, wApp, wAsg, wAug, wAugI, wB, wC, wCall, wCallR, wChain, wCons, wDraw, wDrop, wEnL, wEnT, wExt, wFn, wFnO, wFor, wGCons, wGNil, wGT, wIL, wIT, wIdx, wIf, wIfS, wIsi, wIx, wLc, wLst, wMNil, wMO, wMV, wMix, wN, wNeg, wNil, wNot, wNotT, wO, wOp, wOr, wOwn, wPar, wR1, wR2, wRaise, wRaiseF, wRet, wSeq, wSet, wSetI, wSkip, wTAnd, wTNot, wTOr, wTru, wTry, wTryF, wTup, wV, wYes, wSplit, wJoin, wRstrip, wFmt, wJNil, wJCons, wJs, gStr, gIntS, wIS, gSignNotIn, wSl, wSlt, wPn, wPs, gMulT, wGL, wTryAs, wXf, wXis, wCat, wCatV, wIxV, startS, List.length_cons, List.length_nil, List.map_cons, List.map_nil, List.getElem?_cons_zero, List.getElem?_cons_succ, List.set_cons_zero, List.set_cons_succ, List.cons_append, List.nil_append, List.append_nil, List.replicate_succ, List.replicate_zero, Nat.reduceAdd, Nat.reduceSub, ↓reduceIte, Bool.false_eq_true, reduceCtorEq, true_and, and_true, true_or, or_true, false_or, or_false, Bool.not_true, Bool.not_false, Bool.true_and, Bool.false_and, Bool.and_true, decide_eq_true_eq, Bool.not_eq_eq_eq_not, exists_eq_left, exists_eq_left', Option.some.injEq, wipeS, eW, flat, sw, sh0, ew]
      by_cases e : w = []
      · subst e
        simpa using hno2 (by simp)
      · simp only [e, decide_false, startS, List.length_cons, List.length_nil, List.map_cons, List.map_nil, List.getElem?_cons_zero, List.getElem?_cons_succ, List.set_cons_zero, List.set_cons_succ, List.cons_append, List.nil_append, List.append_nil, List.replicate_succ, List.replicate_zero, Nat.reduceAdd, Nat.reduceSub, ↓reduceIte, Bool.false_eq_true, reduceCtorEq, true_and, and_true, true_or, or_true, false_or, or_false, Bool.not_true, Bool.not_false, Bool.true_and, Bool.false_and, Bool.and_true, decide_eq_true_eq, Bool.not_eq_eq_eq_not, exists_eq_left, exists_eq_left', Option.some.injEq]
        exact hy2 (by simp [e])
    · rw [List.nil_append]
      have e : c2 = True := eq_true hc2
      subst e
      exact hy rfl
  · rw [List.nil_append, List.filter_eq_self.mpr (fun _ _ => rfl)]
    have e : c' = True := eq_true hc'
    subst e
    obtain ⟨q, qs, eq⟩ : ∃ q qs, spl1 10 l = q :: qs := by
      cases h : spl1 10 l with
      | nil => exact absurd h (spl1_ne 10 l)
      | cons q qs => exact ⟨q, qs, rfl⟩
    have okq : ∀ r ∈ spl1 10 l, okWs (wds r) ∧ (wds r).length ≤ 1000000 := fun r hr => by
      obtain ⟨h1, h2⟩ := spl1_mem hr
      exact ⟨okWs_wds (by omega) fun c hc => ha c (h2 c hc), by have := wds_len r; omega⟩
    have hr' := hr
    unfold rowsOf at hr'
    rw [eq, List.map_cons] at hr'
    have a0 : atD ((spl1 10 l).map fun q => eR (wds q)) 0 = some (eR (wds q)) := by rw [eq]; exact atD_map (f := fun q => eR (wds q)) (l := q :: qs) (i := 0) rfl
    simp only [w_read_plan_2, w_read_plan_3, bl?, g2, gAdd, gDiv, gEq, gGe, gGt, gI, gIn, gInt, gIs, gIsNot, gLe, gLen, gList, gLt, gMM, gMod, gMul, gMulS, gNe, gNotIn, gPow, gSorted, gSub, gIadd, gSum, gTuple, puts, sV, sVs, slotM, wAnd, wApp, wAsg, wAug, wAugI, wB, wC, wCall, wCallR, wChain, wCons, wDraw, wDrop, wEnL, wEnT, wExt, wFn, wFnO, wFor, wGCons, wGNil, wGT, wIL, wIT, wIdx, wIf, wIfS, wIsi, wIx, wLc, wLst, wMNil, wMO, wMV, wMix, wN, wNeg, wNil, wNot, wNotT, wO, wOp, wOr, wOwn, wPar, wR1, wR2, wRaise, wRaiseF, wRet, wSeq, wSet, wSetI, wSkip, wTAnd, wTNot, wTOr, wTru, wTry, wTryF, wTup, wV, wYes, wSplit, wJoin, wRstrip, wFmt, wJNil, wJCons, wJs, gStr, gIntS, wIS, gSignNotIn, wSl, wSlt, wPn, wPs, gMulT, wGL, wTryAs, wXf, wXis, wCat, wCatV, wIxV, startS, List.length_cons, List.length_nil, List.map_cons, List.map_nil, List.getElem?_cons_zero, List.getElem?_cons_succ, List.set_cons_zero, List.set_cons_succ, List.cons_append, List.nil_append, List.append_nil, List.replicate_succ, List.replicate_zero, Nat.reduceAdd, Nat.reduceSub, ↓reduceIte, Bool.false_eq_true, reduceCtorEq, true_and, and_true, true_or, or_true, false_or, or_false, Bool.not_true, Bool.not_false, Bool.true_and, Bool.false_and, Bool.and_true, decide_eq_true_eq, Bool.not_eq_eq_eq_not, exists_eq_left, exists_eq_left', Option.some.injEq, a0]
    refine ⟨wds q, rfl, (okq q (by rw [eq]; exact List.mem_cons_self)).1, (okq q (by rw [eq]; exact List.mem_cons_self)).2, ?_⟩
    unfold readPlanF at hr'
    dsimp only at hr'
    cases hh : readHeapsF (wds q) with
    | error e =>
      rw [hh] at hr'
      exact hr'
    | ok h =>
      rw [hh] at hr'
      dsimp only at hr'
      simp only [res, startS, List.length_cons, List.length_nil, List.map_cons, List.map_nil, List.getElem?_cons_zero, List.getElem?_cons_succ, List.set_cons_zero, List.set_cons_succ, List.cons_append, List.nil_append, List.append_nil, List.replicate_succ, List.replicate_zero, Nat.reduceAdd, Nat.reduceSub, ↓reduceIte, Bool.false_eq_true, reduceCtorEq, true_and, and_true, true_or, or_true, false_or, or_false, Bool.not_true, Bool.not_false, Bool.true_and, Bool.false_and, Bool.and_true, decide_eq_true_eq, Bool.not_eq_eq_eq_not, exists_eq_left, exists_eq_left', Option.some.injEq, flat_eH]
      have ed : cutL ((spl1 10 l).map fun q => eR (wds q)) (some 1) none = qs.map fun q => eR (wds q) := by
        have := cut_drop ((spl1 10 l).map fun q => eR (wds q)) 1
        rw [show ((1 : Nat) : Int) = 1 from rfl] at this
        rw [this, eq]
        rfl
      simp only [w_read_plan_4, bl?, g2, gAdd, gDiv, gEq, gGe, gGt, gI, gIn, gInt, gIs, gIsNot, gLe, gLen, gList, gLt, gMM, gMod, gMul, gMulS, gNe, gNotIn, gPow, gSorted, gSub, gIadd, gSum, gTuple, puts, sV, sVs, slotM, wAnd, wApp, wAsg, wAug, wAugI, wB, wC, wCall, wCallR, wChain, wCons, wDraw, wDrop, wEnL, wEnT, wExt, wFn, wFnO, wFor, wGCons, wGNil, wGT, wIL, wIT, wIdx, wIf, wIfS, wIsi, wIx, wLc, wLst, wMNil, wMO, wMV, wMix, wN, wNeg, wNil, wNot, wNotT, wO, wOp, wOr, wOwn, wPar, wR1, wR2, wRaise, wRaiseF, wRet, wSeq, wSet, wSetI, wSkip, wTAnd, wTNot, wTOr, wTru, wTry, wTryF, wTup, wV, wYes, wSplit, wJoin, wRstrip, wFmt, wJNil, wJCons, wJs, gStr, gIntS, wIS, gSignNotIn, wSl, wSlt, wPn, wPs, gMulT, wGL, wTryAs, wXf, wXis, wCat, wCatV, wIxV, startS, List.length_cons, List.length_nil, List.map_cons, List.map_nil, List.getElem?_cons_zero, List.getElem?_cons_succ, List.set_cons_zero, List.set_cons_succ, List.cons_append, List.nil_append, List.append_nil, List.replicate_succ, List.replicate_zero, Nat.reduceAdd, Nat.reduceSub, ↓reduceIte, Bool.false_eq_true, reduceCtorEq, true_and, and_true, true_or, or_true, false_or, or_false, Bool.not_true, Bool.not_false, Bool.true_and, Bool.false_and, Bool.and_true, decide_eq_true_eq, Bool.not_eq_eq_eq_not, exists_eq_left, exists_eq_left', Option.some.injEq, ed]
      refine ⟨by decide, ?_⟩
      have hh' : ∀ r ∈ qs, okWs (wds r) ∧ (wds r).length ≤ 1000000 := fun r hr => okq r (by rw [eq]; exact List.mem_cons_of_mem _ hr)
      have hql : qs.length ≤ 900001 := by rw [eq, List.length_cons] at hlen; omega
      refine for_inv (fun r S => ∃ (k : Nat) (rs : List (List Nat)) (acc : List (Nat × Nat)) (s6 s7 : Slot), r = enumFr k (rs.map fun q => eR (wds q)) ∧ S = [.im (.str (mkS l)), .im (.list ((spl1 10 l).map fun q => eR (wds q))), .un, .un, .im (eH (eNs h)), .ol (acc.map eP), s6, s7] ∧ (∀ r ∈ rs, okWs (wds r) ∧ (wds r).length ≤ 1000000) ∧ acc.length + rs.length ≤ 900001 ∧
        res (match rpLoop h.length (rs.map wds) k acc with | .error e => .error e | .ok p => .ok (h, p)) (fun v => A (.tuple [eH (eNs v.1), eL v.2])) B) _ _ ?_ ⟨0, qs, [], .un, .un, rfl, rfl, hh', by simpa using hql, hr'⟩ ?_
      · rintro d r S ⟨k, rs, acc, s6, s7, er, rfl, hrs, hal, hr⟩ Nx hN
        cases rs with
        | nil => cases er
        | cons r0 rs =>
          cases er
          rw [List.length_cons] at hal
          obtain ⟨k1, k2⟩ := hrs r0 List.mem_cons_self
          rw [List.map_cons] at hr
          unfold rpLoop at hr
          simp only [w_read_plan_4_1, w_read_plan_4_2, bl?, g2, gAdd, gDiv, gEq, gGe, gGt, gI, gIn, gInt, gIs, gIsNot, gLe, gLen, gList, gLt, gMM, gMod, gMul, gMulS, gNe, gNotIn, gPow, gSorted, gSub, gIadd, gSum, gTuple, puts, sV, sVs, slotM, wAnd, wApp, wAsg, wAug, wAugI, wB, wC, wCall, wCallR, wChain, wCons, wDraw, wDrop, wEnL, wEnT, wExt, wFn, wFnO, wFor, wGCons, wGNil, wGT, wIL, wIT, wIdx, wIf, wIfS, wIsi, wIx, wLc, wLst, wMNil, wMO, wMV, wMix, wN, wNeg, wNil, wNot, wNotT, wO, wOp, wOr, wOwn, wPar, wR1, wR2, wRaise, wRaiseF, wRet, wSeq, wSet, wSetI, wSkip, wTAnd, wTNot, wTOr, wTru, wTry, wTryF, wTup, wV, wYes, wSplit, wJoin, wRstrip, wFmt, wJNil, wJCons, wJs, gStr, gIntS, wIS, gSignNotIn, wSl, wSlt, wPn, wPs, gMulT, wGL, wTryAs, wXf, wXis, wCat, wCatV, wIxV, startS, List.length_cons, List.length_nil, List.map_cons, List.map_nil, List.getElem?_cons_zero, List.getElem?_cons_succ, List.set_cons_zero, List.set_cons_succ, List.cons_append, List.nil_append, List.append_nil, List.replicate_succ, List.replicate_zero, Nat.reduceAdd, Nat.reduceSub, ↓reduceIte, Bool.false_eq_true, reduceCtorEq, true_and, and_true, true_or, or_true, false_or, or_false, Bool.not_true, Bool.not_false, Bool.true_and, Bool.false_and, Bool.and_true, decide_eq_true_eq, Bool.not_eq_eq_eq_not, exists_eq_left, exists_eq_left', Option.some.injEq, flat, shaped_int, eqv_int, List.length_map]
          by_cases c : acc.length = 20000
          · have c' : (acc.length : Int) = 20000 := by omega
            rw [if_pos c] at hr
            simp only [c', decide_true, startS, List.length_cons, List.length_nil, List.map_cons, List.map_nil, List.getElem?_cons_zero, List.getElem?_cons_succ, List.set_cons_zero, List.set_cons_succ, List.cons_append, List.nil_append, List.append_nil, List.replicate_succ, List.replicate_zero, Nat.reduceAdd, Nat.reduceSub, ↓reduceIte, Bool.false_eq_true, reduceCtorEq, true_and, and_true, true_or, or_true, false_or, or_false, Bool.not_true, Bool.not_false, Bool.true_and, Bool.false_and, Bool.and_true, decide_eq_true_eq, Bool.not_eq_eq_eq_not, exists_eq_left, exists_eq_left', Option.some.injEq, bl?, g2, gAdd, gDiv, gEq, gGe, gGt, gI, gIn, gInt, gIs, gIsNot, gLe, gLen, gList, gLt, gMM, gMod, gMul, gMulS, gNe, gNotIn, gPow, gSorted, gSub, gIadd, gSum, gTuple, puts, sV, sVs, slotM, wAnd, wApp, wAsg, wAug, wAugI, wB, wC, wCall, wCallR, wChain, wCons, wDraw, wDrop, wEnL, wEnT, wExt, wFn, wFnO, wFor, wGCons, wGNil, wGT, wIL, wIT, wIdx, wIf, wIfS, wIsi, wIx, wLc, wLst, wMNil, wMO, wMV, wMix, wN, wNeg, wNil, wNot, wNotT, wO, wOp, wOr, wOwn, wPar, wR1, wR2, wRaise, wRaiseF, wRet, wSeq, wSet, wSetI, wSkip, wTAnd, wTNot, wTOr, wTru, wTry, wTryF, wTup, wV, wYes, wSplit, wJoin, wRstrip, wFmt, wJNil, wJCons, wJs, gStr, gIntS, wIS, gSignNotIn, wSl, wSlt, wPn, wPs, gMulT, wGL, wTryAs, wXf, wXis, wCat, wCatV, wIxV]
            simpa [sVs, sV, res] using hr
          · have c' : ¬ (acc.length : Int) = 20000 := by omega
            rw [if_neg c] at hr
            simp only [c', decide_false, startS, List.length_cons, List.length_nil, List.map_cons, List.map_nil, List.getElem?_cons_zero, List.getElem?_cons_succ, List.set_cons_zero, List.set_cons_succ, List.cons_append, List.nil_append, List.append_nil, List.replicate_succ, List.replicate_zero, Nat.reduceAdd, Nat.reduceSub, ↓reduceIte, Bool.false_eq_true, reduceCtorEq, true_and, and_true, true_or, or_true, false_or, or_false, Bool.not_true, Bool.not_false, Bool.true_and, Bool.false_and, Bool.and_true, decide_eq_true_eq, Bool.not_eq_eq_eq_not, exists_eq_left, exists_eq_left', Option.some.injEq, bl?, g2, gAdd, gDiv, gEq, gGe, gGt, gI, gIn, gInt, gIs, gIsNot, gLe, gLen, gList, gLt, gMM, gMod, gMul, gMulS, gNe, gNotIn, gPow, gSorted, gSub, gIadd, gSum, gTuple, puts, sV, sVs, slotM, wAnd, wApp, wAsg, wAug, wAugI, wB, wC, wCall, wCallR, wChain, wCons, wDraw, wDrop, wEnL, wEnT, wExt, wFn, wFnO, wFor, wGCons, wGNil, wGT, wIL, wIT, wIdx, wIf, wIfS, wIsi, wIx, wLc, wLst, wMNil, wMO, wMV, wMix, wN, wNeg, wNil, wNot, wNotT, wO, wOp, wOr, wOwn, wPar, wR1, wR2, wRaise, wRaiseF, wRet, wSeq, wSet, wSetI, wSkip, wTAnd, wTNot, wTOr, wTru, wTry, wTryF, wTup, wV, wYes, wSplit, wJoin, wRstrip, wFmt, wJNil, wJCons, wJs, gStr, gIntS, wIS, gSignNotIn, wSl, wSlt, wPn, wPs, gMulT, wGL, wTryAs, wXf, wXis, wCat, wCatV, wIxV, eH, List.length_map]
            refine ⟨⟨_, rfl⟩, wds r0, k + 2, h.length, by simp [eR], k1, k2, ?_⟩
            cases hs : readStepF (wds r0) (k + 2) h.length with
            | error e =>
              rw [hs] at hr
              exact hr
            | ok s =>
              rw [hs] at hr
              dsimp only at hr
              simp only [res, startS, List.length_cons, List.length_nil, List.map_cons, List.map_nil, List.getElem?_cons_zero, List.getElem?_cons_succ, List.set_cons_zero, List.set_cons_succ, List.cons_append, List.nil_append, List.append_nil, List.replicate_succ, List.replicate_zero, Nat.reduceAdd, Nat.reduceSub, ↓reduceIte, Bool.false_eq_true, reduceCtorEq, true_and, and_true, true_or, or_true, false_or, or_false, Bool.not_true, Bool.not_false, Bool.true_and, Bool.false_and, Bool.and_true, decide_eq_true_eq, Bool.not_eq_eq_eq_not, exists_eq_left, exists_eq_left', Option.some.injEq, flat_eP]
              refine ⟨by rw [sizeLine_eq]; omega, hN _ ⟨k + 1, rs, acc ++ [s], .im (.int (k : Nat)), .im (eR (wds r0)), rfl, by simp [eH], fun r hr => hrs r (List.mem_cons_of_mem _ hr), by rw [List.length_append]; simp; omega, hr⟩⟩
      · rintro S ⟨k, rs, acc, s6, s7, er, rfl, hrs, hal, hr⟩
        have eq : rs = [] := by cases rs with
          | nil => rfl
          | cons x l => cases er
        subst eq
        simp only [w_read_plan_5, bl?, g2, gAdd, gDiv, gEq, gGe, gGt, gI, gIn, gInt, gIs, gIsNot, gLe, gLen, gList, gLt, gMM, gMod, gMul, gMulS, gNe, gNotIn, gPow, gSorted, gSub, gIadd, gSum, gTuple, puts, sV, sVs, slotM, wAnd, wApp, wAsg, wAug, wAugI, wB, wC, wCall, wCallR, wChain, wCons, wDraw, wDrop, wEnL, wEnT, wExt, wFn, wFnO, wFor, wGCons, wGNil, wGT, wIL, wIT, wIdx, wIf, wIfS, wIsi, wIx, wLc, wLst, wMNil, wMO, wMV, wMix, wN, wNeg, wNil, wNot, wNotT, wO, wOp, wOr, wOwn, wPar, wR1, wR2, wRaise, wRaiseF, wRet, wSeq, wSet, wSetI, wSkip, wTAnd, wTNot, wTOr, wTru, wTry, wTryF, wTup, wV, wYes, wSplit, wJoin, wRstrip, wFmt, wJNil, wJCons, wJs, gStr, gIntS, wIS, gSignNotIn, wSl, wSlt, wPn, wPs, gMulT, wGL, wTryAs, wXf, wXis, wCat, wCatV, wIxV, startS, List.length_cons, List.length_nil, List.map_cons, List.map_nil, List.getElem?_cons_zero, List.getElem?_cons_succ, List.set_cons_zero, List.set_cons_succ, List.cons_append, List.nil_append, List.append_nil, List.replicate_succ, List.replicate_zero, Nat.reduceAdd, Nat.reduceSub, ↓reduceIte, Bool.false_eq_true, reduceCtorEq, true_and, and_true, true_or, or_true, false_or, or_false, Bool.not_true, Bool.not_false, Bool.true_and, Bool.false_and, Bool.and_true, decide_eq_true_eq, Bool.not_eq_eq_eq_not, exists_eq_left, exists_eq_left', Option.some.injEq, flat_eH]
        exact ⟨by decide, hr⟩
/-! the text that is written -/
def strI (i : Int) : Str := toString i
theorem strI_nat (n : Nat) : strI (n : Int) = mkS (numL n) := by
  rw [str_eq, tl_mkS]
  exact tl_num n
theorem log_small {i : Int} (h0 : 0 ≤ i) (h1 : i ≤ big) : i.natAbs.log2 < 1920 := by
  by_cases c : i.natAbs = 0
  · rw [c]; decide
  · rw [Nat.log2_lt c]
    have : i.natAbs ≤ 1000000000000000000000000000000 := by have : big = 1000000000000000000000000000000 := rfl; omega
    exact Nat.lt_of_le_of_lt this (by decide)
def headL (h : List Int) : List Nat := joinL [32] (hW :: h.map fun i => numL i.toNat)
def stepL (s : Nat × Nat) : List Nat := joinL [32] [sW, numL s.1, numL s.2]
def planL (h : List Int) (p : List (Nat × Nat)) : List Nat := joinL [10] (headL h :: p.map stepL)
def sp_write_plan : Spc := fun ds A _ => ∃ h p, ds = [eH h, eL p] ∧ OkH h ∧ OkP h.length p ∧ p.length ≤ 20000 ∧ A (eW (planL h p))
def w_write_plan_1 : WS :=
    (wDrop (wCall sp_check_plan (wCons (wV 0) (wCons (wV 1) wNil))))
def w_write_plan_2 : WS :=
    (wOwn 2 (wLst (wCons (wJoin (wC (.str " ")) (wOp gAdd (wO (wLst (wCons (wC (.str "heaps")) wNil))) (wO (wLc (wIT (wV 0)) (wN 3) wYes (wFn gStr (wCons (wV 3) wNil)) [3])))) wNil)))
def w_write_plan_3 : WS :=
    (wExt 2 (wO (wLc (wIT (wV 1)) (wGT 2 (wGCons (wN 4) (wGCons (wN 5) wGNil))) wYes (wJs (wJCons (wC (.str "step ")) (wJCons (wFmt (wV 4)) (wJCons (wC (.str " ")) (wJCons (wFmt (wV 5)) wJNil))))) [4, 5])))
def w_write_plan_4 : WS :=
    (wRet (wJoin (wC (.str "\n")) (wV 2)))
def w_write_plan : WS :=
    (wSeq w_write_plan_1
    (wSeq w_write_plan_2
    (wSeq w_write_plan_3
    w_write_plan_4)))
theorem join_mk (y : Str) (ws : List (List Nat)) : Txt.join y (ws.map mkS) = mkS (joinL (tl y) ws) := by
  rw [str_eq, join_eq, tl_join, List.map_map, tl_mkS]
  have : (tl ∘ mkS) = id := by funext l; rfl
  rw [this, List.map_id]
theorem strs_eW (ws : List (List Nat)) : strs? (ws.map eW) = some (ws.map mkS) := by
  have : ws.map eW = (ws.map mkS).map PyData.str := by rw [List.map_map]; rfl
  rw [this, strs?_map]
theorem join_fit {B : Nat} {sep : Str} {ws : List (List Nat)} (hB : ∀ w ∈ ws, w.length ≤ B) (h : ws.length * B + ws.length * sep.length ≤ 16777216) : ((ws.map mkS).map (·.length)).sum + (ws.map mkS).length * sep.length ≤ 16777216 := by
  have := StrLaws.sumLen_le (B := B) (ws.map mkS) (fun y hy => by
    obtain ⟨w, hw, rfl⟩ := List.mem_map.mp hy
    rw [len_mkS]
    exact hB w hw)
  rw [List.length_map] at *
  omega
theorem len_joinL (s : Nat) (B : Nat) : ∀ ws : List (List Nat), (∀ w ∈ ws, w.length ≤ B) → (joinL [s] ws).length ≤ ws.length * (B + 1)
  | [], _ => Nat.zero_le _
  | [w], h => by
    have := h w List.mem_cons_self
    show w.length ≤ 1 * (B + 1)
    omega
  | w :: v :: r, h => by
    have h1 := h w List.mem_cons_self
    have ih := len_joinL s B (v :: r) fun x hx => h x (List.mem_cons_of_mem _ hx)
    show (w ++ ([s] ++ joinL [s] (v :: r))).length ≤ (r.length + 1 + 1) * (B + 1)
    rw [List.length_append, List.length_append, List.length_singleton]
    rw [List.length_cons] at ih
    rw [Nat.succ_mul (r.length + 1)]
    omega
theorem num31 {i : Int} (h0 : 0 ≤ i) (h1 : i ≤ big) : (numL i.toNat).length ≤ 31 := numL_len (by decide) (by
  have : i.toNat ≤ 1000000000000000000000000000000 := by have : big = 1000000000000000000000000000000 := rfl; omega
  exact Nat.lt_of_le_of_lt this (by decide))
theorem strI_int {i : Int} (h0 : 0 ≤ i) : (toString i : Str) = mkS (numL i.toNat) := by
  have := strI_nat i.toNat
  rw [Int.toNat_of_nonneg h0] at this
  exact this
theorem head_fit {h : List Int} (o : OkH h) : ∀ w ∈ hW :: h.map (fun i => numL i.toNat), w.length ≤ 31 := fun w hw => by
  rcases List.mem_cons.mp hw with z | z
  · rw [z]; decide
  · obtain ⟨i, hi, rfl⟩ := List.mem_map.mp z
    exact num31 (o.rg i hi).1 (o.rg i hi).2
theorem step_len {n : Nat} (hn : n ≤ 6) {s : Nat × Nat} (o : okS n s) : (stepL s).length ≤ 8 := by
  have h1 : (numL s.1).length ≤ 1 := numL_len (by decide) (by have := o.1; omega)
  have h2 : (numL s.2).length ≤ 1 := numL_len (by decide) (by have := o.2.1; omega)
  show (sW ++ ([32] ++ (numL s.1 ++ ([32] ++ numL s.2)))).length ≤ 8
  simp only [List.length_append]
  have : sW.length = 4 := rfl
  simp
  omega
theorem head_len {h : List Int} (o : OkH h) : (headL h).length ≤ 300 := by
  have := len_joinL 32 31 _ (head_fit o)
  rw [List.length_cons, List.length_map] at this
  have l6 := o.l6
  show (joinL [32] (hW :: h.map fun i => numL i.toNat)).length ≤ 300
  omega
theorem fs_step (a b : Nat) : Str.empty ++ "step " ++ toString (a : Int) ++ " " ++ toString (b : Int) = mkS (stepL (a, b)) := by
  have e1 := strI_nat a
  have e2 := strI_nat b
  unfold strI at e1 e2
  rw [e1, e2, str_eq]
  simp only [tl_append, tl_mkS, tl_sp]
  show tl Str.empty ++ tl ("step " : Str) ++ numL a ++ [32] ++ numL b = sW ++ ([32] ++ (numL a ++ ([32] ++ numL b)))
  rw [show tl Str.empty = [] from rfl, show tl ("step " : Str) = sW ++ [32] by decide +kernel]
  simp
theorem len_append (x y : Str) : (x ++ y).length = x.length + y.length := Str.length_append x y
theorem pure_write_plan : Pure 6 2 sp_write_plan w_write_plan := by
  rintro ds A B - ⟨h, p, rfl, oh, op, hl, hA⟩
  simp only [w_write_plan, w_write_plan_1, w_write_plan_2, bl?, g2, gAdd, gDiv, gEq, gGe, gGt, gI, gIn, gInt, gIs, gIsNot, gLe, gLen, gList, gLt, gMM, gMod, gMul, gMulS, gNe, gNotIn, gPow, gSorted, gSub, gIadd, gSum, gTuple, puts, sV, sVs, slotM, wAnd, wApp, wAsg, wAug, wAugI, wB, wC, wCall, wCallR, wChain, wCons, wDraw, wDrop, wEnL, wEnT, wExt, wFn, wFnO, wFor, wGCons, wGNil, wGT, wIL, wIT, wIdx, wIf, wIfS, wIsi, wIx, wLc, wLst, wMNil, wMO, wMV, wMix, wN, wNeg, wNil, wNot, wNotT, wO, wOp, wOr, wOwn, wPar, wR1, wR2, wRaise, wRaiseF, wRet, wSeq, wSet, wSetI, wSkip, wTAnd, wTNot, wTOr, wTru, wTry, wTryF, wTup, wV, wYes, wSplit, wJoin, wRstrip, wFmt, wJNil, wJCons, wJs, gStr, gIntS, wIS, gSignNotIn, wSl, wSlt, wPn, wPs, gMulT, wGL, wTryAs, wXf, wXis, wCat, wCatV, wIxV, startS, List.length_cons, List.length_nil, List.map_cons, List.map_nil, List.getElem?_cons_zero, List.getElem?_cons_succ, List.set_cons_zero, List.set_cons_succ, List.cons_append, List.nil_append, List.append_nil, List.replicate_succ, List.replicate_zero, Nat.reduceAdd, Nat.reduceSub, ↓reduceIte, Bool.false_eq_true, reduceCtorEq, true_and, and_true, true_or, or_true, false_or, or_false, Bool.not_true, Bool.not_false, Bool.true_and, Bool.false_and, Bool.and_true, decide_eq_true_eq, Bool.not_eq_eq_eq_not, exists_eq_left, exists_eq_left', Option.some.injEq]
  refine ⟨h, p, rfl, oh, op, hl, ?_⟩
  simp only [eH, startS, List.length_cons, List.length_nil, List.map_cons, List.map_nil, List.getElem?_cons_zero, List.getElem?_cons_succ, List.set_cons_zero, List.set_cons_succ, List.cons_append, List.nil_append, List.append_nil, List.replicate_succ, List.replicate_zero, Nat.reduceAdd, Nat.reduceSub, ↓reduceIte, Bool.false_eq_true, reduceCtorEq, true_and, and_true, true_or, or_true, false_or, or_false, Bool.not_true, Bool.not_false, Bool.true_and, Bool.false_and, Bool.and_true, decide_eq_true_eq, Bool.not_eq_eq_eq_not, exists_eq_left, exists_eq_left', Option.some.injEq, List.all_cons, List.all_nil, notRng, isMut]
  refine ⟨by decide, ?_⟩
  refine lc_ok PyData.int (fun _ => true) (fun i => eW (numL i.toNat)) h [] True (fun i hi Yes No hy hno => ?_) (by have := oh.l6; simp; omega) trivial fun c' hc' => ?_
  · obtain ⟨i0, i1⟩ := oh.rg i hi
    simp only [bl?, g2, gAdd, gDiv, gEq, gGe, gGt, gI, gIn, gInt, gIs, gIsNot, gLe, gLen, gList, gLt, gMM, gMod, gMul, gMulS, gNe, gNotIn, gPow, gSorted, gSub, gIadd, gSum, gTuple, puts, sV, sVs, slotM, wAnd, wApp, wAsg, wAug, wAugI, wB, wC, wCall, wCallR, wChain, wCons, wDraw, wDrop, wEnL, wEnT, wExt, wFn, wFnO, wFor, wGCons, wGNil, wGT, wIL, wIT, wIdx, wIf, wIfS, wIsi, wIx, wLc, wLst, wMNil, wMO, wMV, wMix, wN, wNeg, wNil, wNot, wNotT, wO, wOp, wOr, wOwn, wPar, wR1, wR2, wRaise, wRaiseF, wRet, wSeq, wSet, wSetI, wSkip, wTAnd, wTNot, wTOr, wTru, wTry, wTryF, wTup, wV, wYes, wSplit, wJoin, wRstrip, wFmt, wJNil, wJCons, wJs, gStr, gIntS, wIS, gSignNotIn, wSl, wSlt, wPn, wPs, gMulT, wGL, wTryAs, wXf, wXis, wCat, wCatV, wIxV, startS, List.length_cons, List.length_nil, List.map_cons, List.map_nil, List.getElem?_cons_zero, List.getElem?_cons_succ, List.set_cons_zero, List.set_cons_succ, List.cons_append, List.nil_append, List.append_nil, List.replicate_succ, List.replicate_zero, Nat.reduceAdd, Nat.reduceSub, ↓reduceIte, Bool.false_eq_true, reduceCtorEq, true_and, and_true, true_or, or_true, false_or, or_false, Bool.not_true, Bool.not_false, Bool.true_and, Bool.false_and, Bool.and_true, decide_eq_true_eq, Bool.not_eq_eq_eq_not, exists_eq_left, exists_eq_left', Option.some.injEq, wipeS, flat, log_small i0 i1]
    rw [strI_int i0]
    exact hy rfl
  · rw [List.nil_append, List.filter_eq_self.mpr (fun _ _ => rfl)]
    have e0 : PyData.str ("heaps" : Str) :: h.map (fun i => eW (numL i.toNat)) = (hW :: h.map fun i => numL i.toNat).map eW := by
      rw [List.map_cons, List.map_map, mk_heaps]
      rfl
    have hb : ((List.map mkS (hW :: h.map fun i => numL i.toNat)).map (·.length)).sum + (List.map mkS (hW :: h.map fun i => numL i.toNat)).length * (" " : Str).length ≤ 16777216 := join_fit (head_fit oh) (by
      have : (" " : Str).length = 1 := by decide +kernel
      rw [this, List.length_cons, List.length_map]
      have := oh.l6
      omega)
    have hlen : 1 + h.length ≤ sizeLine := by rw [sizeLine_eq]; have := oh.l6; omega
    refine ⟨by rw [List.length_map]; exact hlen, (hW :: h.map fun i => numL i.toNat).map mkS, by rw [e0, strs_eW], hb, by decide, ?_⟩
    rw [join_mk, tl_sp]
    simp only [w_write_plan_3, bl?, g2, gAdd, gDiv, gEq, gGe, gGt, gI, gIn, gInt, gIs, gIsNot, gLe, gLen, gList, gLt, gMM, gMod, gMul, gMulS, gNe, gNotIn, gPow, gSorted, gSub, gIadd, gSum, gTuple, puts, sV, sVs, slotM, wAnd, wApp, wAsg, wAug, wAugI, wB, wC, wCall, wCallR, wChain, wCons, wDraw, wDrop, wEnL, wEnT, wExt, wFn, wFnO, wFor, wGCons, wGNil, wGT, wIL, wIT, wIdx, wIf, wIfS, wIsi, wIx, wLc, wLst, wMNil, wMO, wMV, wMix, wN, wNeg, wNil, wNot, wNotT, wO, wOp, wOr, wOwn, wPar, wR1, wR2, wRaise, wRaiseF, wRet, wSeq, wSet, wSetI, wSkip, wTAnd, wTNot, wTOr, wTru, wTry, wTryF, wTup, wV, wYes, wSplit, wJoin, wRstrip, wFmt, wJNil, wJCons, wJs, gStr, gIntS, wIS, gSignNotIn, wSl, wSlt, wPn, wPs, gMulT, wGL, wTryAs, wXf, wXis, wCat, wCatV, wIxV, startS, List.length_cons, List.length_nil, List.map_cons, List.map_nil, List.getElem?_cons_zero, List.getElem?_cons_succ, List.set_cons_zero, List.set_cons_succ, List.cons_append, List.nil_append, List.append_nil, List.replicate_succ, List.replicate_zero, Nat.reduceAdd, Nat.reduceSub, ↓reduceIte, Bool.false_eq_true, reduceCtorEq, true_and, and_true, true_or, or_true, false_or, or_false, Bool.not_true, Bool.not_false, Bool.true_and, Bool.false_and, Bool.and_true, decide_eq_true_eq, Bool.not_eq_eq_eq_not, exists_eq_left, exists_eq_left', Option.some.injEq, eL, List.all_cons, List.all_nil, notRng, isMut]
    refine ⟨⟨_, rfl⟩, lc_ok eP (fun _ => true) (fun s => eW (stepL s)) p [] True (fun s hs Yes No hy hno => ?_) (by simp; omega) trivial fun c2 hc2 => ?_⟩
    · obtain ⟨a, b⟩ := s
      have os := op _ hs
      have ha : a < 6 := Nat.lt_of_lt_of_le os.1 oh.l6
      have hb' : b < 6 := Nat.lt_of_lt_of_le os.2.1 oh.l6
      have la : (a : Int).natAbs.log2 < 1920 := log_small (by omega) (by have : big = 1000000000000000000000000000000 := rfl; omega)
      have lb : (b : Int).natAbs.log2 < 1920 := log_small (by omega) (by have : big = 1000000000000000000000000000000 := rfl; omega)
      simp only [bl?, g2, gAdd, gDiv, gEq, gGe, gGt, gI, gIn, gInt, gIs, gIsNot, gLe, gLen, gList, gLt, gMM, gMod, gMul, gMulS, gNe, gNotIn, gPow, gSorted, gSub, gIadd, gSum, gTuple, puts, sV, sVs, slotM, wAnd, wApp, wAsg, wAug, wAugI, wB, wC, wCall, wCallR, wChain, wCons, wDraw, wDrop, wEnL, wEnT, wExt, wFn, wFnO, wFor, wGCons, wGNil, wGT, wIL, wIT, wIdx, wIf, wIfS, wIsi, wIx, wLc, wLst, wMNil, wMO, wMV, wMix, wN, wNeg, wNil, wNot, wNotT, wO, wOp, wOr, wOwn, wPar, wR1, wR2, wRaise, wRaiseF, wRet, wSeq, wSet, wSetI, wSkip, wTAnd, wTNot, wTOr, wTru, wTry, wTryF, wTup, wV, wYes, wSplit, wJoin, wRstrip, wFmt, wJNil, wJCons, wJs, gStr, gIntS, wIS, gSignNotIn, wSl, wSlt, wPn, wPs, gMulT, wGL, wTryAs, wXf, wXis, wCat, wCatV, wIxV, startS, List.length_cons, List.length_nil, List.map_cons, List.map_nil, List.getElem?_cons_zero, List.getElem?_cons_succ, List.set_cons_zero, List.set_cons_succ, List.cons_append, List.nil_append, List.append_nil, List.replicate_succ, List.replicate_zero, Nat.reduceAdd, Nat.reduceSub, ↓reduceIte, Bool.false_eq_true, reduceCtorEq, true_and, and_true, true_or, or_true, false_or, or_false, Bool.not_true, Bool.not_false, Bool.true_and, Bool.false_and, Bool.and_true, decide_eq_true_eq, Bool.not_eq_eq_eq_not, exists_eq_left, exists_eq_left', Option.some.injEq, wipeS, flat, eP, la, lb]
      have e1 := strI_nat a
      have e2 := strI_nat b
      unfold strI at e1 e2
      have n1 : (numL a).length ≤ 1 := numL_len (by decide) (by omega)
      have n2 : (numL b).length ≤ 1 := numL_len (by decide) (by omega)
      have z1 : (Str.empty ++ ("step " : Str)).length ≤ sizeLine := by decide +kernel
      have z0 : (Str.empty ++ ("step " : Str)).length = 5 := by decide +kernel
      have zs : (" " : Str).length = 1 := by decide +kernel
      refine ⟨z1, ?_, ?_, ?_, ?_⟩
      · rw [len_append, e1, len_mkS, sizeLine_eq]; omega
      · rw [len_append, len_append, e1, len_mkS, sizeLine_eq]; omega
      · rw [len_append, len_append, len_append, e1, e2, len_mkS, len_mkS, sizeLine_eq]; omega
      · rw [fs_step]
        exact hy rfl
    · rw [List.nil_append, List.filter_eq_self.mpr (fun _ _ => rfl)]
      have fz2 : flats (p.map fun s => eW (stepL s)) = true := flats_map (fun s => flat_eW _) p
      have ep : [PyData.str (mkS (joinL [32] (hW :: h.map fun i => numL i.toNat)))] ++ p.map (fun s => eW (stepL s)) = (headL h :: p.map stepL).map eW := by
        rw [List.map_cons, List.map_map]
        rfl
      have hb2 : ((List.map mkS (headL h :: p.map stepL)).map (·.length)).sum + (List.map mkS (headL h :: p.map stepL)).length * ("\n" : Str).length ≤ 16777216 := join_fit (B := 300) (fun w hw => by
          rcases List.mem_cons.mp hw with z | z
          · rw [z]; exact head_len oh
          · obtain ⟨s, hs, rfl⟩ := List.mem_map.mp z
            have := step_len oh.l6 (op s hs)
            omega) (by
        have : ("\n" : Str).length = 1 := by decide +kernel
        rw [this, List.length_cons, List.length_map]
        omega)
      have ep' : PyData.str (mkS (joinL [32] (hW :: h.map fun i => numL i.toNat))) :: p.map (fun s => eW (stepL s)) = (headL h :: p.map stepL).map eW := ep
      simp only [startS, List.length_cons, List.length_nil, List.map_cons, List.map_nil, List.getElem?_cons_zero, List.getElem?_cons_succ, List.set_cons_zero, List.set_cons_succ, List.cons_append, List.nil_append, List.append_nil, List.replicate_succ, List.replicate_zero, Nat.reduceAdd, Nat.reduceSub, ↓reduceIte, Bool.false_eq_true, reduceCtorEq, true_and, and_true, true_or, or_true, false_or, or_false, Bool.not_true, Bool.not_false, Bool.true_and, Bool.false_and, Bool.and_true, decide_eq_true_eq, Bool.not_eq_eq_eq_not, exists_eq_left, exists_eq_left', Option.some.injEq, fz2, w_write_plan_4, bl?, g2, gAdd, gDiv, gEq, gGe, gGt, gI, gIn, gInt, gIs, gIsNot, gLe, gLen, gList, gLt, gMM, gMod, gMul, gMulS, gNe, gNotIn, gPow, gSorted, gSub, gIadd, gSum, gTuple, puts, sV, sVs, slotM, wAnd, wApp, wAsg, wAug, wAugI, wB, wC, wCall, wCallR, wChain, wCons, wDraw, wDrop, wEnL, wEnT, wExt, wFn, wFnO, wFor, wGCons, wGNil, wGT, wIL, wIT, wIdx, wIf, wIfS, wIsi, wIx, wLc, wLst, wMNil, wMO, wMV, wMix, wN, wNeg, wNil, wNot, wNotT, wO, wOp, wOr, wOwn, wPar, wR1, wR2, wRaise, wRaiseF, wRet, wSeq, wSet, wSetI, wSkip, wTAnd, wTNot, wTOr, wTru, wTry, wTryF, wTup, wV, wYes, wSplit, wJoin, wRstrip, wFmt, wJNil, wJCons, wJs, gStr, gIntS, wIS, gSignNotIn, wSl, wSlt, wPn, wPs, gMulT, wGL, wTryAs, wXf, wXis, wCat, wCatV, wIxV, List.length_map]
      refine ⟨by rw [sizeLine_eq]; omega, (headL h :: p.map stepL).map mkS, by rw [ep', strs_eW], hb2, ?_⟩
      rw [join_mk, tl_nl]
      exact hA
end Pu


namespace Pu
open PySem L2 TL
/-! ### what is written is read -/
theorem numL_head : ∀ n : Nat, (numL n).head? = some 48 → n = 0 := by
  intro n
  induction n using Nat.strongRecOn with
  | _ n ih =>
    intro h
    by_cases c : n < 10
    · rw [numL_lt c] at h
      simp at h
      exact h
    · rw [numL_step (by omega)] at h
      have hne := numL_ne (n / 10)
      obtain ⟨x, l, e⟩ : ∃ x l, numL (n / 10) = x :: l := by
        cases q : numL (n / 10) with
        | nil => exact absurd q hne
        | cons x l => exact ⟨x, l, rfl⟩
      have h2 : (numL (n / 10)).head? = some 48 := by
        rw [e] at h ⊢
        exact h
      have := ih (n / 10) (by omega) h2
      omega
theorem numW_num {n : Nat} {most : Int} (h : (n : Int) ≤ most) (h31 : n < 10 ^ 31) : numW (numL n) most = some n := by
  unfold numW
  have hv : valW (numL n) = n := numL_val n
  have hd : digitsOk (numL n) = true := List.all_eq_true.mpr fun c hc => by
    obtain ⟨a, b⟩ := numL_digits n c hc
    rw [decide_eq_true a, decide_eq_true b]; rfl
  have hl : (numL n).length ≤ 31 := numL_len (by decide) h31
  have hz : (decide ((numL n).head? ≠ some 48) || decide (numL n = [48])) = true := by
    by_cases c : (numL n).head? = some 48
    · have e := numL_head n c
      subst e
      rw [show numL 0 = [48] from numL_lt (by decide)]
      simp
    · simp [c]
  rw [hv, if_pos]
  refine ⟨?_, by omega⟩
  unfold fineW
  rw [hd, hz, decide_eq_true hl]
  rfl
def headW (h : List Int) : List (List Nat) := hW :: h.map fun i => numL i.toNat
def stepW (s : Nat × Nat) : List (List Nat) := [sW, numL s.1, numL s.2]
theorem rhLoop_good (ws : List (List Nat)) : ∀ (r : List Nat) (k : Nat) (acc : List Nat), ws.drop (k + 1) = r.map numL → k + r.length ≤ 6 → (∀ n ∈ r, (n : Int) ≤ big) →
    rhLoop ws (List.range' (k + 1) r.length) acc = if (acc ++ r).foldl max 0 = 0 then .error (1, ws.length) else .ok (acc ++ r)
  | [], k, acc, _, _, _ => by
    rw [List.append_nil]
    rfl
  | n :: r, k, acc, hd, hl, hb => by
    rw [List.length_cons] at hl ⊢
    rw [List.range'_succ]
    unfold rhLoop
    have hat : ws[k + 1]? = some (numL n) := by
      have := congrArg (·[0]?) hd
      simpa using this
    have hn : numAt ws (k + 1) big = some n := by
      unfold numAt
      rw [hat]
      have h1 := hb n List.mem_cons_self
      have : big = 1000000000000000000000000000000 := rfl
      have p31 : (10 : Nat) ^ 31 = 10000000000000000000000000000000 := by decide
      exact numW_num h1 (by omega)
    rw [if_neg (by omega), hn]
    have hd' : ws.drop (k + 1 + 1) = r.map numL := by
      have := congrArg List.tail hd
      rw [List.tail_drop] at this
      exact this
    have ih := rhLoop_good ws r (k + 1) (acc ++ [n]) hd' (by omega) fun m hm => hb m (List.mem_cons_of_mem _ hm)
    rw [List.append_assoc] at ih
    exact ih
theorem fold_pos : ∀ (l : List Nat) (a : Nat), (∃ x ∈ l, x ≠ 0) ∨ a ≠ 0 → l.foldl max a ≠ 0
  | [], a, h => by
    rcases h with ⟨x, hx, _⟩ | h
    · cases hx
    · exact h
  | y :: l, a, h => by
    refine fold_pos l (max a y) ?_
    rcases h with ⟨x, hx, hn⟩ | h
    · rcases List.mem_cons.mp hx with z | z
      · right; rw [← z]; omega
      · exact .inl ⟨x, z, hn⟩
    · right; omega
theorem readHeaps_good {h : List Int} (o : OkH h) : readHeapsF (headW h) = .ok (h.map (·.toNat)) := by
  unfold readHeapsF headW
  rw [if_pos (show (hW :: h.map fun i => numL i.toNat).take 1 = [hW] from rfl)]
  have hl : (hW :: h.map fun i => numL i.toNat).length = h.length + 1 := by simp
  rw [hl]
  have e : max (h.length + 1) 3 - 1 = (h.map (·.toNat)).length := by rw [List.length_map]; have := o.l2; omega
  rw [e]
  have er : (List.range (h.map (·.toNat)).length).map (· + 1) = List.range' (0 + 1) (h.map (·.toNat)).length := by
    rw [List.range'_eq_map_range]
    refine List.map_congr_left fun i _ => by omega
  rw [er, rhLoop_good _ (h.map (·.toNat)) 0 [] (by rw [List.map_map]; rfl) (by rw [List.length_map]; have := o.l6; omega) (fun n hn => by
    obtain ⟨i, hi, rfl⟩ := List.mem_map.mp hn
    have := o.rg i hi
    omega), List.nil_append, if_neg]
  refine fold_pos _ 0 (.inl ?_)
  obtain ⟨x, hx, hn⟩ := o.nz
  have := o.rg x hx
  exact ⟨x.toNat, List.mem_map.mpr ⟨x, hx, rfl⟩, by omega⟩
theorem readStep_good {n : Nat} (hn : n ≤ 6) {s : Nat × Nat} (o : okS n s) (line : Nat) : readStepF (stepW s) line n = .ok s := by
  obtain ⟨a, b⟩ := s
  obtain ⟨h1, h2, h3⟩ := o
  have h1 : a < n := h1
  have h2 : b < n := h2
  have h3 : a ≠ b := h3
  have p31 : (10 : Nat) ^ 31 = 10000000000000000000000000000000 := by decide
  have e1 : numAt (stepW (a, b)) 1 ((n : Int) - 1) = some a := numW_num (n := a) (by omega) (by omega)
  have e2 : numAt (stepW (a, b)) 2 ((n : Int) - 1) = some b := numW_num (n := b) (by omega) (by omega)
  unfold readStepF
  rw [if_pos (show (stepW (a, b)).take 1 = [sW] from rfl), e1]
  dsimp only
  rw [e2]
  dsimp only
  rw [if_neg h3, if_neg (by simp [stepW])]
theorem rpLoop_good {n : Nat} (hn : n ≤ 6) (rest : List (List (List Nat))) : ∀ (p : List (Nat × Nat)) (i : Nat) (acc : List (Nat × Nat)), OkP n p → acc.length + p.length ≤ 20000 →
    rpLoop n (p.map stepW ++ rest) i acc = rpLoop n rest (i + p.length) (acc ++ p)
  | [], i, acc, _, _ => by simp
  | s :: p, i, acc, op, hl => by
    rw [List.length_cons] at hl
    rw [List.map_cons, List.cons_append]
    conv => lhs; unfold rpLoop
    rw [if_neg (by omega), readStep_good hn (op s List.mem_cons_self)]
    dsimp only
    rw [rpLoop_good hn rest p (i + 1) (acc ++ [s]) (fun x hx => op x (List.mem_cons_of_mem _ hx)) (by rw [List.length_append]; simp; omega)]
    rw [List.append_assoc, List.length_cons]
    have e : i + 1 + p.length = i + (p.length + 1) := by omega
    rw [e]
    rfl
theorem readPlan_good {h : List Int} {p : List (Nat × Nat)} (o : OkH h) (op : OkP h.length p) (hl : p.length ≤ 20000) : readPlanF (headW h :: p.map stepW) = .ok (h.map (·.toNat), p) := by
  unfold readPlanF
  dsimp only
  rw [readHeaps_good o]
  dsimp only
  have := rpLoop_good (n := h.length) o.l6 [] p 0 [] op (by simpa using hl)
  rw [List.append_nil] at this
  rw [List.length_map, this]
  rfl
theorem nat_back {h : List Int} (o : OkH h) : eNs (h.map (·.toNat)) = h := by
  rw [eNs, List.map_map]
  conv => rhs; rw [← List.map_id h]
  refine List.map_congr_left fun i hi => ?_
  exact Int.toNat_of_nonneg (o.rg i hi).1
/-- words of no white sign -/
structure OkW (w : List Nat) : Prop where
  ne : w ≠ []
  sp : ∀ c ∈ w, Unicode.isSpace c = false
  lt : ∀ c ∈ w, c < 128
theorem OkW.no32 {w : List Nat} (o : OkW w) : 32 ∉ w := fun h => by
  have := o.sp 32 h
  have e : Unicode.isSpace 32 = true := by decide +kernel
  rw [e] at this
  cases this
theorem OkW.no10 {w : List Nat} (o : OkW w) : 10 ∉ w := fun h => by
  have := o.sp 10 h
  have e : Unicode.isSpace 10 = true := by decide +kernel
  rw [e] at this
  cases this
theorem okW_num (n : Nat) : OkW (numL n) := ⟨numL_ne n, fun c hc => isSpace_num hc, fun c hc => by have := numL_digits n c hc; omega⟩
theorem okW_h : OkW hW := ⟨by decide, by decide +kernel, by decide⟩
theorem okW_s : OkW sW := ⟨by decide, by decide +kernel, by decide⟩
theorem okW_head (h : List Int) : ∀ w ∈ headW h, OkW w := fun w hw => by
  rcases List.mem_cons.mp hw with z | z
  · rw [z]; exact okW_h
  · obtain ⟨i, _, rfl⟩ := List.mem_map.mp z
    exact okW_num _
theorem okW_step (s : Nat × Nat) : ∀ w ∈ stepW s, OkW w := fun w hw => by
  simp only [stepW, List.mem_cons, List.not_mem_nil, or_false] at hw
  rcases hw with z | z | z
  · rw [z]; exact okW_s
  · rw [z]; exact okW_num _
  · rw [z]; exact okW_num _
theorem mem_joinL {s : Nat} : ∀ {ws : List (List Nat)} {c : Nat}, c ∈ joinL [s] ws → c = s ∨ ∃ w ∈ ws, c ∈ w
  | [], c, h => by cases h
  | [w], c, h => .inr ⟨w, List.mem_cons_self, h⟩
  | w :: v :: r, c, h => by
    have h : c ∈ w ++ ([s] ++ joinL [s] (v :: r)) := h
    rcases List.mem_append.mp h with z | z
    · exact .inr ⟨w, List.mem_cons_self, z⟩
    · rcases List.mem_append.mp z with z | z
      · exact .inl (List.mem_singleton.mp z)
      · rcases mem_joinL z with q | ⟨x, hx, q⟩
        · exact .inl q
        · exact .inr ⟨x, List.mem_cons_of_mem _ hx, q⟩
theorem line_no10 {ws : List (List Nat)} (o : ∀ w ∈ ws, OkW w) : 10 ∉ joinL [32] ws := fun h => by
  rcases mem_joinL h with z | ⟨w, hw, z⟩
  · cases z
  · exact (o w hw).no10 z
theorem wds_line {ws : List (List Nat)} (o : ∀ w ∈ ws, OkW w) : wds (joinL [32] ws) = ws := wds_join ws fun w hw => ⟨(o w hw).no32, (o w hw).ne⟩
theorem line_lt {ws : List (List Nat)} (o : ∀ w ∈ ws, OkW w) : ∀ c ∈ joinL [32] ws, c < 128 := fun c hc => by
  rcases mem_joinL hc with z | ⟨w, hw, z⟩
  · omega
  · exact (o w hw).lt c z
/-- a text of lines: its rows -/
theorem rows_join {ls : List (List Nat)} (hne : ls ≠ []) (h : ∀ l ∈ ls, 10 ∉ l) : rowsOf (joinL [10] ls) = ls.map wds := by
  unfold rowsOf
  rw [spl1_join hne h]
theorem headL_eq (h : List Int) : headL h = joinL [32] (headW h) := rfl
theorem stepL_eq (s : Nat × Nat) : stepL s = joinL [32] (stepW s) := rfl
theorem rows_plan (h : List Int) (p : List (Nat × Nat)) : rowsOf (planL h p) = headW h :: p.map stepW := by
  unfold planL
  rw [rows_join (by simp) fun l hl => ?_, List.map_cons, List.map_map, headL_eq, wds_line (okW_head h)]
  · congr 1
    refine List.map_congr_left fun s _ => ?_
    show wds (stepL s) = stepW s
    rw [stepL_eq, wds_line (okW_step s)]
  · rcases List.mem_cons.mp hl with z | z
    · rw [z, headL_eq]; exact line_no10 (okW_head h)
    · obtain ⟨s, _, rfl⟩ := List.mem_map.mp z
      rw [stepL_eq]; exact line_no10 (okW_step s)
/-! a loosely set line -/
theorem cat_mkS (a b : List Nat) : mkS a ++ mkS b = mkS (a ++ b) := by rw [str_eq, tl_append, tl_mkS, tl_mkS, tl_mkS]
theorem mk_sp2 : ("  " : Str) = mkS [32, 32] := by rw [str_eq, tl_mkS]; decide +kernel
theorem mk_sp3 : ("   " : Str) = mkS [32, 32, 32] := by rw [str_eq, tl_mkS]; decide +kernel
theorem mk_sp4 : ("    " : Str) = mkS [32, 32, 32, 32] := by rw [str_eq, tl_mkS]; decide +kernel
theorem lead_of {r : Int} (h0 : 0 ≤ r) (h3 : r < 3) : ∃ k : Nat, atD [.str (" " : Str), .str ("" : Str), .str ("   " : Str)] r = some (eW (List.replicate k 32)) ∧ k ≤ 3 := by
  have e : r = 0 ∨ r = 1 ∨ r = 2 := by omega
  rw [mk_sp, mk_em, mk_sp3]
  rcases e with e | e | e <;> subst e
  · exact ⟨1, rfl, by decide⟩
  · exact ⟨0, rfl, by decide⟩
  · exact ⟨3, rfl, by decide⟩
theorem gap_of {r : Int} (h0 : 0 ≤ r) (h3 : r < 3) : ∃ k : Nat, atD [.str (" " : Str), .str ("  " : Str), .str ("    " : Str)] r = some (eW (List.replicate (k + 1) 32)) ∧ k ≤ 3 := by
  have e : r = 0 ∨ r = 1 ∨ r = 2 := by omega
  rw [mk_sp, mk_sp2, mk_sp4]
  rcases e with e | e | e <;> subst e
  · exact ⟨0, rfl, by decide⟩
  · exact ⟨1, rfl, by decide⟩
  · exact ⟨3, rfl, by decide⟩
/-- how a line may be set -/
structure Loose (ws : List (List Nat)) (u : List Nat) : Prop where
  wd : wds u = ws
  nl : 10 ∉ u
  lt : ∀ c ∈ u, c < 128
  ln : u.length ≤ 3 + 36 * ws.length
def sp_law_loose : Spc := fun ds A _ => ∃ ws : List (List Nat), ds = [eW (joinL [32] ws)] ∧ ws ≠ [] ∧ ws.length ≤ 10 ∧ (∀ w ∈ ws, OkW w ∧ w.length ≤ 31) ∧ ∀ u, Loose ws u → A (eW u)
def w_law_loose_1 : WS :=
    (wSet 2 (wO (wSplit (wV 1) (wC (.str " ")))))
def w_law_loose_2 : WS :=
    (wSet 3 (wIx (wO (wLst (wCons (wC (.str " ")) (wCons (wC (.str "")) (wCons (wC (.str "   ")) wNil))))) (wDraw 0 (wC (.int 3)))))
def w_law_loose_3 : WS :=
    (wFor (wR1 (wCons (wFn gLen (wCons (wV 2) wNil)) wNil)) (wN 4) (wSet 3 (wOp gAdd (wOp gAdd (wV 3) (wIx (wV 2) (wV 4))) (wIx (wO (wLst (wCons (wC (.str " ")) (wCons (wC (.str "  ")) (wCons (wC (.str "    ")) wNil))))) (wDraw 0 (wC (.int 3)))))))
def w_law_loose_4 : WS :=
    (wRet (wIf (wB (wOp gEq (wDraw 0 (wC (.int 2))) (wC (.int 0)))) (wV 3) (wRstrip (wV 3))))
def w_law_loose : WS :=
    (wSeq w_law_loose_1
    (wSeq w_law_loose_2
    (wSeq w_law_loose_3
    w_law_loose_4)))
theorem loose_mem : ∀ {ws : List (List Nat × Nat)} {c : Nat}, c ∈ looseL ws → c = 32 ∨ ∃ p ∈ ws, c ∈ p.1
  | [], c, h => by cases h
  | (w, k) :: r, c, h => by
    have h : c ∈ w ++ (List.replicate (k + 1) 32 ++ looseL r) := h
    rcases List.mem_append.mp h with z | z
    · exact .inr ⟨(w, k), List.mem_cons_self, z⟩
    · rcases List.mem_append.mp z with z | z
      · exact .inl (List.eq_of_mem_replicate z)
      · rcases loose_mem z with q | ⟨x, hx, q⟩
        · exact .inl q
        · exact .inr ⟨x, List.mem_cons_of_mem _ hx, q⟩
theorem loose_len : ∀ {ws : List (List Nat × Nat)}, (∀ p ∈ ws, p.1.length ≤ 31 ∧ p.2 ≤ 3) → (looseL ws).length ≤ 36 * ws.length
  | [], _ => Nat.le_refl _
  | (w, k) :: r, h => by
    obtain ⟨h1, h2⟩ := h _ List.mem_cons_self
    have h1 : w.length ≤ 31 := h1
    have h2 : k ≤ 3 := h2
    have ih := loose_len (ws := r) fun p hp => h p (List.mem_cons_of_mem _ hp)
    show (w ++ (List.replicate (k + 1) 32 ++ looseL r)).length ≤ 36 * (r.length + 1)
    rw [List.length_append, List.length_append, List.length_replicate]
    omega
theorem mem_dropW {p : Nat → Bool} {l : List Nat} {c : Nat} (h : c ∈ (l.reverse.dropWhile p).reverse) : c ∈ l := by
  rw [List.mem_reverse] at h
  have := List.dropWhile_sublist p (l := l.reverse)
  exact List.mem_reverse.mp (this.subset h)
theorem len_dropW {p : Nat → Bool} {l : List Nat} : (l.reverse.dropWhile p).reverse.length ≤ l.length := by
  rw [List.length_reverse]
  have := (List.dropWhile_sublist p (l := l.reverse)).length_le
  rwa [List.length_reverse] at this
theorem mk_rstrip (l : List Nat) : Txt.rstrip (mkS l) = mkS (l.reverse.dropWhile Unicode.isSpace).reverse := by rw [str_eq, rstrip_tl, tl_mkS, tl_mkS]
theorem set_loose {ws : List (List Nat × Nat)} {k0 : Nat} (hne : ws ≠ []) (hk : k0 ≤ 3) (h : ∀ p ∈ ws, OkW p.1 ∧ p.1.length ≤ 31 ∧ p.2 ≤ 3) : Loose (ws.map (·.1)) (List.replicate k0 32 ++ looseL ws) ∧
    Loose (ws.map (·.1)) ((List.replicate k0 32 ++ looseL ws).reverse.dropWhile Unicode.isSpace).reverse := by
  have hm : ∀ c ∈ List.replicate k0 32 ++ looseL ws, c = 32 ∨ ∃ p ∈ ws, c ∈ p.1 := fun c hc => by
    rcases List.mem_append.mp hc with z | z
    · exact .inl (List.eq_of_mem_replicate z)
    · exact loose_mem z
  have hl : (List.replicate k0 32 ++ looseL ws).length ≤ 3 + 36 * (ws.map (·.1)).length := by
    rw [List.length_append, List.length_replicate, List.length_map]
    have := loose_len (ws := ws) fun p hp => (h p hp).2
    omega
  have n10 : ∀ c, (c = 32 ∨ ∃ p ∈ ws, c ∈ p.1) → c ≠ 10 ∧ c < 128 := fun c hc => by
    rcases hc with z | ⟨p, hp, z⟩
    · omega
    · exact ⟨fun e => (h p hp).1.no10 (by rw [← e]; exact z), (h p hp).1.lt c z⟩
  refine ⟨⟨?_, fun z => (n10 10 (hm 10 z)).1 rfl, fun c hc => (n10 c (hm c hc)).2, hl⟩, ⟨?_, fun z => (n10 10 (hm 10 (mem_dropW z))).1 rfl, fun c hc => (n10 c (hm c (mem_dropW hc))).2, Nat.le_trans len_dropW hl⟩⟩
  · rw [wds_lead, wds_loose ws fun p hp => ⟨(h p hp).1.no32, (h p hp).1.ne⟩]
  · exact wds_rstrip hne fun p hp => ⟨(h p hp).1.no32, (h p hp).1.ne, (h p hp).1.sp⟩
theorem pure_law_loose : PureR 4 1 sp_law_loose w_law_loose := by
  rintro ds A B a c - ⟨ws, rfl, hne, hl, hw, hA⟩
  have e31 : (10 : Int) ^ 31 = 10000000000000000000000000000000 := by decide
  have hlen := len_joinL 32 31 ws fun w h => (hw w h).2
  have hl2 : (joinL [32] ws).length + 2 ≤ sizeLine := by rw [sizeLine_eq]; omega
  simp only [w_law_loose, w_law_loose_1, bl?, g2, gAdd, gDiv, gEq, gGe, gGt, gI, gIn, gInt, gIs, gIsNot, gLe, gLen, gList, gLt, gMM, gMod, gMul, gMulS, gNe, gNotIn, gPow, gSorted, gSub, gIadd, gSum, gTuple, puts, sV, sVs, slotM, wAnd, wApp, wAsg, wAug, wAugI, wB, wC, wCall, wCallR, wChain, wCons, wDraw, wDrop, wEnL, wEnT, wExt, wFn, wFnO, wFor, wGCons, wGNil, wGT, wIL, wIT, wIdx, wIf, wIfS, wIsi, wIx, wLc, wLst, wMNil, wMO, wMV, wMix, wN, wNeg, wNil, wNot, wNotT, wO, wOp, wOr, wOwn, wPar, wR1, wR2, wRaise, wRaiseF, wRet, wSeq, wSet, wSetI, wSkip, wTAnd, wTNot, wTOr, wTru, wTry, wTryF, wTup, wV, wYes, wSplit, wJoin, wRstrip, wFmt, wJNil, wJCons, wJs, gStr, gIntS, wIS, gSignNotIn, wSl, wSlt, wPn, wPs, gMulT, wGL, wTryAs, wXf, wXis, wCat, wCatV, wIxV, startS, List.length_cons, List.length_nil, List.map_cons, List.map_nil, List.getElem?_cons_zero, List.getElem?_cons_succ, List.set_cons_zero, List.set_cons_succ, List.cons_append, List.nil_append, List.append_nil, List.replicate_succ, List.replicate_zero, Nat.reduceAdd, Nat.reduceSub, ↓reduceIte, Bool.false_eq_true, reduceCtorEq, true_and, and_true, true_or, or_true, false_or, or_false, Bool.not_true, Bool.not_false, Bool.true_and, Bool.false_and, Bool.and_true, decide_eq_true_eq, Bool.not_eq_eq_eq_not, exists_eq_left, exists_eq_left', Option.some.injEq, eW, len_sp, len_mkS, hl2]
  rw [split_sp, show spl1 32 (joinL [32] ws) = ws from spl1_join hne fun w h => (hw w h).1.no32]
  simp only [w_law_loose_2, bl?, g2, gAdd, gDiv, gEq, gGe, gGt, gI, gIn, gInt, gIs, gIsNot, gLe, gLen, gList, gLt, gMM, gMod, gMul, gMulS, gNe, gNotIn, gPow, gSorted, gSub, gIadd, gSum, gTuple, puts, sV, sVs, slotM, wAnd, wApp, wAsg, wAug, wAugI, wB, wC, wCall, wCallR, wChain, wCons, wDraw, wDrop, wEnL, wEnT, wExt, wFn, wFnO, wFor, wGCons, wGNil, wGT, wIL, wIT, wIdx, wIf, wIfS, wIsi, wIx, wLc, wLst, wMNil, wMO, wMV, wMix, wN, wNeg, wNil, wNot, wNotT, wO, wOp, wOr, wOwn, wPar, wR1, wR2, wRaise, wRaiseF, wRet, wSeq, wSet, wSetI, wSkip, wTAnd, wTNot, wTOr, wTru, wTry, wTryF, wTup, wV, wYes, wSplit, wJoin, wRstrip, wFmt, wJNil, wJCons, wJs, gStr, gIntS, wIS, gSignNotIn, wSl, wSlt, wPn, wPs, gMulT, wGL, wTryAs, wXf, wXis, wCat, wCatV, wIxV, startS, List.length_cons, List.length_nil, List.map_cons, List.map_nil, List.getElem?_cons_zero, List.getElem?_cons_succ, List.set_cons_zero, List.set_cons_succ, List.cons_append, List.nil_append, List.append_nil, List.replicate_succ, List.replicate_zero, Nat.reduceAdd, Nat.reduceSub, ↓reduceIte, Bool.false_eq_true, reduceCtorEq, true_and, and_true, true_or, or_true, false_or, or_false, Bool.not_true, Bool.not_false, Bool.true_and, Bool.false_and, Bool.and_true, decide_eq_true_eq, Bool.not_eq_eq_eq_not, exists_eq_left, exists_eq_left', Option.some.injEq]
  refine ⟨by decide, a, c, rfl, rfl, by decide, by rw [e31]; decide, fun r r0 r1 => ?_⟩
  obtain ⟨k0, ek, hk0⟩ := lead_of r0 r1
  simp only [ek, startS, List.length_cons, List.length_nil, List.map_cons, List.map_nil, List.getElem?_cons_zero, List.getElem?_cons_succ, List.set_cons_zero, List.set_cons_succ, List.cons_append, List.nil_append, List.append_nil, List.replicate_succ, List.replicate_zero, Nat.reduceAdd, Nat.reduceSub, ↓reduceIte, Bool.false_eq_true, reduceCtorEq, true_and, and_true, true_or, or_true, false_or, or_false, Bool.not_true, Bool.not_false, Bool.true_and, Bool.false_and, Bool.and_true, decide_eq_true_eq, Bool.not_eq_eq_eq_not, exists_eq_left, exists_eq_left', Option.some.injEq, flat_eW, w_law_loose_3, bl?, g2, gAdd, gDiv, gEq, gGe, gGt, gI, gIn, gInt, gIs, gIsNot, gLe, gLen, gList, gLt, gMM, gMod, gMul, gMulS, gNe, gNotIn, gPow, gSorted, gSub, gIadd, gSum, gTuple, puts, sV, sVs, slotM, wAnd, wApp, wAsg, wAug, wAugI, wB, wC, wCall, wCallR, wChain, wCons, wDraw, wDrop, wEnL, wEnT, wExt, wFn, wFnO, wFor, wGCons, wGNil, wGT, wIL, wIT, wIdx, wIf, wIfS, wIsi, wIx, wLc, wLst, wMNil, wMO, wMV, wMix, wN, wNeg, wNil, wNot, wNotT, wO, wOp, wOr, wOwn, wPar, wR1, wR2, wRaise, wRaiseF, wRet, wSeq, wSet, wSetI, wSkip, wTAnd, wTNot, wTOr, wTru, wTry, wTryF, wTup, wV, wYes, wSplit, wJoin, wRstrip, wFmt, wJNil, wJCons, wJs, gStr, gIntS, wIS, gSignNotIn, wSl, wSlt, wPn, wPs, gMulT, wGL, wTryAs, wXf, wXis, wCat, wCatV, wIxV, List.length_map]
  have e62 : (2 : Int) ^ 62 = 4611686018427387904 := by decide
  refine ⟨by rw [e62]; omega, by rw [e62]; omega, ?_⟩
  rw [rangeD0, Int.toNat_natCast]
  refine for_inv (fun r S => ∃ (k : Nat) (ps : List (List Nat × Nat)) (s4 : Slot), k ≤ ws.length ∧ r = ((List.range ws.length).drop k).map (fun (i : Nat) => PyData.int (i : Int)) ∧ S = [.rng a c, .im (.str (mkS (joinL [32] ws))), .im (.list (ws.map eW)), .im (eW (List.replicate k0 32 ++ looseL ps)), s4] ∧ ps.map (·.1) = ws.take k ∧ ∀ p ∈ ps, p.2 ≤ 3) _ _ ?_
    ⟨0, [], .un, Nat.zero_le _, by simp, by simp [looseL, eW], by simp, fun p hp => by cases hp⟩ ?_
  · rintro d r S ⟨k, ps, s4, hk, er, rfl, hp, hp3⟩ Nx hN
    have hk' : k < ws.length := by
      rcases Nat.lt_or_ge k ws.length with c | c
      · exact c
      · rw [List.drop_eq_nil_of_le (by rw [List.length_range]; exact c)] at er
        cases er
    rw [List.drop_eq_getElem_cons (by rw [List.length_range]; exact hk'), List.getElem_range, List.map_cons] at er
    cases er
    have hat : atD (ws.map eW) (k : Int) = some (eW ws[k]) := atD_map (List.getElem?_eq_getElem hk')
    have hwk := hw ws[k] (List.getElem_mem hk')
    have hps : ∀ p ∈ ps, OkW p.1 ∧ p.1.length ≤ 31 ∧ p.2 ≤ 3 := fun p hpm => by
      have : p.1 ∈ ws.take k := by rw [← hp]; exact List.mem_map.mpr ⟨p, hpm, rfl⟩
      have := hw p.1 (List.mem_of_mem_take this)
      exact ⟨this.1, this.2, hp3 p hpm⟩
    have hll := loose_len (ws := ps) fun p hpm => (hps p hpm).2
    have hpl : ps.length ≤ 10 := by
      have := congrArg List.length hp
      rw [List.length_map, List.length_take] at this
      omega
    simp only [bl?, g2, gAdd, gDiv, gEq, gGe, gGt, gI, gIn, gInt, gIs, gIsNot, gLe, gLen, gList, gLt, gMM, gMod, gMul, gMulS, gNe, gNotIn, gPow, gSorted, gSub, gIadd, gSum, gTuple, puts, sV, sVs, slotM, wAnd, wApp, wAsg, wAug, wAugI, wB, wC, wCall, wCallR, wChain, wCons, wDraw, wDrop, wEnL, wEnT, wExt, wFn, wFnO, wFor, wGCons, wGNil, wGT, wIL, wIT, wIdx, wIf, wIfS, wIsi, wIx, wLc, wLst, wMNil, wMO, wMV, wMix, wN, wNeg, wNil, wNot, wNotT, wO, wOp, wOr, wOwn, wPar, wR1, wR2, wRaise, wRaiseF, wRet, wSeq, wSet, wSetI, wSkip, wTAnd, wTNot, wTOr, wTru, wTry, wTryF, wTup, wV, wYes, wSplit, wJoin, wRstrip, wFmt, wJNil, wJCons, wJs, gStr, gIntS, wIS, gSignNotIn, wSl, wSlt, wPn, wPs, gMulT, wGL, wTryAs, wXf, wXis, wCat, wCatV, wIxV, startS, List.length_cons, List.length_nil, List.map_cons, List.map_nil, List.getElem?_cons_zero, List.getElem?_cons_succ, List.set_cons_zero, List.set_cons_succ, List.cons_append, List.nil_append, List.append_nil, List.replicate_succ, List.replicate_zero, Nat.reduceAdd, Nat.reduceSub, ↓reduceIte, Bool.false_eq_true, reduceCtorEq, true_and, and_true, true_or, or_true, false_or, or_false, Bool.not_true, Bool.not_false, Bool.true_and, Bool.false_and, Bool.and_true, decide_eq_true_eq, Bool.not_eq_eq_eq_not, exists_eq_left, exists_eq_left', Option.some.injEq, flat, eW, hat]
    rw [len_mkS, len_mkS, List.length_append, List.length_replicate]
    refine ⟨by rw [sizeLine_eq]; omega, by decide, a, c, rfl, rfl, by decide, by rw [e31]; decide, fun r r0 r1 => ?_⟩
    obtain ⟨g, eg, hg⟩ := gap_of r0 r1
    simp only [eg, startS, List.length_cons, List.length_nil, List.map_cons, List.map_nil, List.getElem?_cons_zero, List.getElem?_cons_succ, List.set_cons_zero, List.set_cons_succ, List.cons_append, List.nil_append, List.append_nil, List.replicate_succ, List.replicate_zero, Nat.reduceAdd, Nat.reduceSub, ↓reduceIte, Bool.false_eq_true, reduceCtorEq, true_and, and_true, true_or, or_true, false_or, or_false, Bool.not_true, Bool.not_false, Bool.true_and, Bool.false_and, Bool.and_true, decide_eq_true_eq, Bool.not_eq_eq_eq_not, exists_eq_left, exists_eq_left', Option.some.injEq, eW]
    rw [cat_mkS, cat_mkS, len_mkS, len_mkS, List.length_append, List.length_append, List.length_replicate, List.length_cons, List.length_replicate]
    refine ⟨by rw [sizeLine_eq]; omega, hN _ ⟨k + 1, ps ++ [(ws[k], g)], .im (.int (k : Nat)), hk', rfl, ?_, ?_, fun p hpm => ?_⟩⟩
    · rw [loose_app]
      have : looseL [(ws[k], g)] = ws[k] ++ List.replicate (g + 1) 32 := by show ws[k] ++ (List.replicate (g + 1) 32 ++ []) = _; rw [List.append_nil]
      rw [this]
      simp [eW, List.append_assoc, List.replicate_succ]
    · rw [List.map_append, hp, List.take_add_one, List.getElem?_eq_getElem hk']
      rfl
    · rcases List.mem_append.mp hpm with z | z
      · exact hp3 p z
      · rw [List.mem_singleton.mp z]; exact hg
  · rintro S ⟨k, ps, s4, hk, er, rfl, hp, hp3⟩
    have hk' : k = ws.length := by
      rcases Nat.lt_or_ge k ws.length with c | c
      · rw [List.drop_eq_getElem_cons (by rw [List.length_range]; exact c)] at er
        cases er
      · omega
    subst hk'
    rw [List.take_length] at hp
    have hps : ∀ p ∈ ps, OkW p.1 ∧ p.1.length ≤ 31 ∧ p.2 ≤ 3 := fun p hpm => by
      have : p.1 ∈ ws := by rw [← hp]; exact List.mem_map.mpr ⟨p, hpm, rfl⟩
      have := hw p.1 this
      exact ⟨this.1, this.2, hp3 p hpm⟩
    have hpn : ps ≠ [] := fun z => hne (by rw [← hp, z]; rfl)
    obtain ⟨L1, L2⟩ := set_loose hpn hk0 hps
    rw [hp] at L1 L2
    simp only [w_law_loose_4, bl?, g2, gAdd, gDiv, gEq, gGe, gGt, gI, gIn, gInt, gIs, gIsNot, gLe, gLen, gList, gLt, gMM, gMod, gMul, gMulS, gNe, gNotIn, gPow, gSorted, gSub, gIadd, gSum, gTuple, puts, sV, sVs, slotM, wAnd, wApp, wAsg, wAug, wAugI, wB, wC, wCall, wCallR, wChain, wCons, wDraw, wDrop, wEnL, wEnT, wExt, wFn, wFnO, wFor, wGCons, wGNil, wGT, wIL, wIT, wIdx, wIf, wIfS, wIsi, wIx, wLc, wLst, wMNil, wMO, wMV, wMix, wN, wNeg, wNil, wNot, wNotT, wO, wOp, wOr, wOwn, wPar, wR1, wR2, wRaise, wRaiseF, wRet, wSeq, wSet, wSetI, wSkip, wTAnd, wTNot, wTOr, wTru, wTry, wTryF, wTup, wV, wYes, wSplit, wJoin, wRstrip, wFmt, wJNil, wJCons, wJs, gStr, gIntS, wIS, gSignNotIn, wSl, wSlt, wPn, wPs, gMulT, wGL, wTryAs, wXf, wXis, wCat, wCatV, wIxV, startS, List.length_cons, List.length_nil, List.map_cons, List.map_nil, List.getElem?_cons_zero, List.getElem?_cons_succ, List.set_cons_zero, List.set_cons_succ, List.cons_append, List.nil_append, List.append_nil, List.replicate_succ, List.replicate_zero, Nat.reduceAdd, Nat.reduceSub, ↓reduceIte, Bool.false_eq_true, reduceCtorEq, true_and, and_true, true_or, or_true, false_or, or_false, Bool.not_true, Bool.not_false, Bool.true_and, Bool.false_and, Bool.and_true, decide_eq_true_eq, Bool.not_eq_eq_eq_not, exists_eq_left, exists_eq_left', Option.some.injEq]
    refine ⟨a, c, rfl, rfl, by decide, by rw [e31]; decide, fun r r0 r1 => ⟨shaped_int _, shaped_int _, ?_⟩⟩
    rw [eqv_int]
    by_cases cr : r = 0
    · simp only [cr, decide_true, startS, List.length_cons, List.length_nil, List.map_cons, List.map_nil, List.getElem?_cons_zero, List.getElem?_cons_succ, List.set_cons_zero, List.set_cons_succ, List.cons_append, List.nil_append, List.append_nil, List.replicate_succ, List.replicate_zero, Nat.reduceAdd, Nat.reduceSub, ↓reduceIte, Bool.false_eq_true, reduceCtorEq, true_and, and_true, true_or, or_true, false_or, or_false, Bool.not_true, Bool.not_false, Bool.true_and, Bool.false_and, Bool.and_true, decide_eq_true_eq, Bool.not_eq_eq_eq_not, exists_eq_left, exists_eq_left', Option.some.injEq]
      exact hA _ L1
    · simp only [cr, decide_false, startS, List.length_cons, List.length_nil, List.map_cons, List.map_nil, List.getElem?_cons_zero, List.getElem?_cons_succ, List.set_cons_zero, List.set_cons_succ, List.cons_append, List.nil_append, List.append_nil, List.replicate_succ, List.replicate_zero, Nat.reduceAdd, Nat.reduceSub, ↓reduceIte, Bool.false_eq_true, reduceCtorEq, true_and, and_true, true_or, or_true, false_or, or_false, Bool.not_true, Bool.not_false, Bool.true_and, Bool.false_and, Bool.and_true, decide_eq_true_eq, Bool.not_eq_eq_eq_not, exists_eq_left, exists_eq_left', Option.some.injEq, eW]
      rw [len_mkS, mk_rstrip]
      exact ⟨by have := L1.ln; rw [sizeLine_eq]; omega, hA _ L2⟩
theorem shaped_tup2 {x y : PyData} (h1 : x.canLay0 = true) (h2 : y.canLay0 = true) (d1 : x.depth ≤ 60) (d2 : y.depth ≤ 60) : SeqAt.shaped (.tuple [x, y]) = true := shaped_of (by simp [PyData.canLay0, PyData.canLayAll0, h1, h2]) (by simp [PyData.depth, PyData.depthAll]; omega)
theorem canLay_eL (p : List (Nat × Nat)) : (eL p).canLay0 = true := by
  show PyData.canLay0 (.tuple _) = true
  rw [PyData.canLay0]
  exact canLayAll_map canLay_eP p
theorem depth_eL (p : List (Nat × Nat)) : (eL p).depth ≤ 2 := by
  show PyData.depth (.tuple _) ≤ 2
  rw [PyData.depth]
  have := depthAll_map (f := eP) (n := 1) (fun s => by rw [depth_eP]; exact Nat.le_refl 1) p
  omega
theorem eqv_eL (a b : List (Nat × Nat)) : PyData.eqv (eL a) (eL b) = decide (a = b) := by
  unfold eL
  rw [PyData.eqv]
  exact eqvAll_map eqv_eP a b
theorem shaped_HP (h : List Int) (p : List (Nat × Nat)) : SeqAt.shaped (.tuple [eH h, eL p]) = true := shaped_tup2 (canLay_eH h) (canLay_eL p) (by rw [depth_eH]; decide) (by have := depth_eL p; omega)
theorem eqv_HP (h : List Int) (p : List (Nat × Nat)) : PyData.eqv (.tuple [eH h, eL p]) (.tuple [eH h, eL p]) = true := by
  simp [PyData.eqv, PyData.eqvAll, eqv_eH, eqv_eL]
/-- the drawn plan -/
theorem steps_all : ∀ {zs : List PyData} {n : Nat}, (∀ z ∈ zs, ∃ s, z = eP s ∧ okS n s) → ∃ p : List (Nat × Nat), zs = p.map eP ∧ OkP n p
  | [], _, _ => ⟨[], rfl, fun s hs => by cases hs⟩
  | z :: zs, n, h => by
    obtain ⟨s, rfl, hs⟩ := h z List.mem_cons_self
    obtain ⟨p, rfl, hp⟩ := steps_all (zs := zs) fun x hx => h x (List.mem_cons_of_mem _ hx)
    exact ⟨s :: p, rfl, fun x hm => by
      rcases List.mem_cons.mp hm with k | k
      · rw [k]; exact hs
      · exact hp x k⟩
theorem lines_all : ∀ {wss : List (List (List Nat))} {zs : List PyData}, zs.length = wss.length → (∀ (i : Nat) (z : PyData) (ws : List (List Nat)), zs[i]? = some z → wss[i]? = some ws → ∃ u, z = eW u ∧ Loose ws u) →
    ∃ us : List (List Nat), zs = us.map eW ∧ us.map wds = wss ∧ (∀ u ∈ us, ∃ ws ∈ wss, Loose ws u)
  | [], [], _, _ => ⟨[], rfl, rfl, fun u hu => by cases hu⟩
  | ws :: wss, [], h, _ => by cases h
  | [], z :: zs, h, _ => by cases h
  | ws :: wss, z :: zs, hl, h => by
    obtain ⟨u, rfl, hu⟩ := h 0 z ws rfl rfl
    obtain ⟨us, e1, e2, e3⟩ := lines_all (wss := wss) (zs := zs) (by simpa using hl) fun i z' ws' h1 h2 => h (i + 1) z' ws' h1 h2
    exact ⟨u :: us, by rw [e1]; rfl, by rw [List.map_cons, e2, hu.wd], fun v hv => by
      rcases List.mem_cons.mp hv with k | k
      · rw [k]; exact ⟨ws, List.mem_cons_self, hu⟩
      · obtain ⟨x, hx, g⟩ := e3 v k
        exact ⟨x, List.mem_cons_of_mem _ hx, g⟩⟩
theorem lc_eachI {wg : WTg} {wt : WTx} {we : WEx} {c : Prop} {S : Slots} {K : List PyData → Prop → Prop} (Q : Nat → PyData → Prop) : ∀ (ds acc : List PyData) (ca : Prop) (n : Nat),
    (∀ (i : Nat) (d : PyData), ds[i]? = some d → ∀ Yes : PyData → Prop → Prop, (∀ e, Q (n + i) e → Yes e True) → ∀ No : Prop, wg d c S fun S1 => wt S1 (fun b S2 => S2 = S1 ∧ if b = true then we S1 (fun e ce S3 => S3 = S1 ∧ Yes e ce) noX else No) noX) →
    acc.length + ds.length ≤ 1000000 → ca → (∀ (zs : List PyData) (c' : Prop), zs.length = ds.length → (∀ i z, zs[i]? = some z → Q (n + i) z) → c' → K (acc ++ zs) c') → lcL wg wt we c S ds acc ca K
  | [], acc, ca, n, _, _, hc, hK => by
    have q := hK [] ca rfl (fun i z h => by cases h) hc
    rw [List.append_nil] at q
    exact q
  | d :: ds, acc, ca, n, h, hl, hc, hK => by
    rw [List.length_cons] at hl
    show wg d c S fun S1 => wt S1 (fun b S2 => S2 = S1 ∧ if b = true then we S1 (fun e ce S3 => S3 = S1 ∧ acc.length < sizeLine ∧ lcL wg wt we c S ds (acc ++ [e]) (ca ∧ (ce ∨ flat e = true)) K) noX else lcL wg wt we c S ds acc ca K) noX
    refine h 0 d rfl (fun e ce => acc.length < sizeLine ∧ lcL wg wt we c S ds (acc ++ [e]) (ca ∧ (ce ∨ flat e = true)) K) (fun e he => ⟨by rw [sizeLine_eq]; omega, ?_⟩) _
    refine lc_eachI Q ds _ _ (n + 1) (fun i x hx Yes hy No => h (i + 1) x hx Yes (fun e' he' => hy e' (by rw [Nat.add_assoc, Nat.add_comm 1 i]; exact he')) No) (by rw [List.length_append]; show acc.length + 1 + ds.length ≤ _; omega) ⟨hc, .inl trivial⟩ fun zs c' hz hq hc' => ?_
    have q := hK (e :: zs) c' (by rw [List.length_cons, List.length_cons, hz]) (fun i z hz => by
      cases i with
      | zero => cases hz; exact he
      | succ i =>
        have := hq i z hz
        rwa [Nat.add_assoc, Nat.add_comm 1 i] at this) hc'
    rw [List.append_assoc]
    exact q
theorem plan_len {h : List Int} {p : List (Nat × Nat)} (o : OkH h) (op : OkP h.length p) (hl : p.length ≤ 100) : (planL h p).length ≤ 40000 := by
  have := len_joinL 10 300 (headL h :: p.map stepL) (fun w hw => by
    rcases List.mem_cons.mp hw with z | z
    · rw [z]; exact head_len o
    · obtain ⟨s, hs, rfl⟩ := List.mem_map.mp z
      have := step_len o.l6 (op s hs)
      omega)
  rw [List.length_cons, List.length_map] at this
  show (joinL [10] (headL h :: p.map stepL)).length ≤ _
  omega
theorem plan_asT (h : List Int) (p : List (Nat × Nat)) : asT (planL h p) := asT_small fun c hc => by
  rcases mem_joinL hc with z | ⟨w, hw, z⟩
  · omega
  · rcases List.mem_cons.mp hw with q | q
    · rw [q, headL_eq] at z; exact line_lt (okW_head h) c z
    · obtain ⟨s, _, rfl⟩ := List.mem_map.mp q
      rw [stepL_eq] at z; exact line_lt (okW_step s) c z
theorem step_cat (a b : Nat) : ("step " : Str) ++ toString (a : Int) ++ " " ++ toString (b : Int) = mkS (stepL (a, b)) := by
  have := fs_step a b
  rw [show Str.empty ++ ("step " : Str) = "step " from by rw [str_eq, tl_append]; decide +kernel] at this
  exact this
theorem read_use {h : List Int} {p : List (Nat × Nat)} {l : List Nat} {A : PyData → Prop} {B : XC → Prop} (o : OkH h) (op : OkP h.length p) (hl : p.length ≤ 20000) (h1 : l.length ≤ 900000) (h2 : asT l) (h3 : rowsOf l = headW h :: p.map stepW) (hA : A (.tuple [eH h, eL p])) : sp_read_plan [eW l] A B :=
  ⟨l, rfl, h1, h2, by rw [h3, readPlan_good o op hl]; show A (.tuple [eH (eNs (h.map (·.toNat))), eL p]); rw [nat_back o]; exact hA⟩
end Pu


namespace Pu
open PySem L2 TL
def m_InvalidText : Str → Option Bool := fun x => if x = "InvalidText" then some true else none
def mIs_HeapError : Str → Option Bool := fun x => if x = "InvalidText" then some true else none
/-! ### faults -/
structure BadH (l : List Nat) (w : Nat) : Prop where
  err : readHeapsF (wds l) = .error (1, w)
  nl : 10 ∉ l
  lt : ∀ c ∈ l, c < 128
  ln : l.length ≤ 400
structure BadS (n : Nat) (l : List Nat) (w : Nat) : Prop where
  err : ∀ line, readStepF (wds l) line n = .error (line, w)
  nl : 10 ∉ l
  lt : ∀ c ∈ l, c < 128
  ln : l.length ≤ 400
theorem bad_head {l : List Nat} {w : Nat} (b : BadH l w) (rest : List (List (List Nat))) : readPlanF (wds l :: rest) = .error (1, w) := by
  unfold readPlanF
  dsimp only
  rw [b.err]
theorem bad_step {h : List Int} {p : List (Nat × Nat)} {l : List Nat} {w : Nat} (o : OkH h) (op : OkP h.length p) (hl : p.length ≤ 100) (b : BadS h.length l w) (rest : List (List (List Nat))) :
    readPlanF (headW h :: (p.map stepW ++ wds l :: rest)) = .error (p.length + 2, w) := by
  unfold readPlanF
  dsimp only
  rw [readHeaps_good o]
  dsimp only
  rw [List.length_map, rpLoop_good o.l6 (wds l :: rest) p 0 [] op (by rw [List.length_nil]; omega), List.nil_append, Nat.zero_add]
  unfold rpLoop
  rw [if_neg (by omega), b.err]
theorem rhLoop_app (ws : List (List Nat)) (q : List Nat) : ∀ (r : List Nat) (k : Nat) (acc : List Nat) (tail : List (List Nat)), ws.drop (k + 1) = r.map numL ++ tail → k + r.length ≤ 6 → (∀ n ∈ r, (n : Int) ≤ big) →
    rhLoop ws (List.range' (k + 1) r.length ++ q) acc = rhLoop ws q (acc ++ r)
  | [], k, acc, tail, _, _, _ => by
    rw [List.append_nil]
    rfl
  | n :: r, k, acc, tail, hd, hl, hb => by
    rw [List.length_cons] at hl ⊢
    rw [List.range'_succ, List.cons_append]
    conv => lhs; unfold rhLoop
    have hat : ws[k + 1]? = some (numL n) := by
      have := congrArg (·[0]?) hd
      simpa using this
    have hn : numAt ws (k + 1) big = some n := by
      unfold numAt
      rw [hat]
      have h1 := hb n List.mem_cons_self
      have : big = 1000000000000000000000000000000 := rfl
      have p31 : (10 : Nat) ^ 31 = 10000000000000000000000000000000 := by decide
      exact numW_num h1 (by omega)
    rw [if_neg (by omega), hn]
    have hd' : ws.drop (k + 1 + 1) = r.map numL ++ tail := by
      have := congrArg List.tail hd
      rw [List.tail_drop] at this
      exact this
    have ih := rhLoop_app ws q r (k + 1) (acc ++ [n]) tail hd' (by omega) fun m hm => hb m (List.mem_cons_of_mem _ hm)
    rw [List.append_assoc] at ih
    exact ih
theorem places_eq (m : Nat) : (List.range m).map (· + 1) = List.range' 1 m := by
  rw [List.range'_eq_map_range]
  exact List.map_congr_left fun i _ => by omega
theorem rh_start (r : List (List Nat)) : readHeapsF (hW :: r) = rhLoop (hW :: r) ((List.range (max (r.length + 1) 3 - 1)).map (· + 1)) [] := by
  unfold readHeapsF
  exact if_pos rfl
/-- a bad word behind good ones -/
theorem bad_at {r : List Nat} {b : List Nat} {tail : List (List Nat)} (hl : r.length + 1 + tail.length ≤ 6) (h2 : 2 ≤ r.length + 1 + tail.length) (hb : ∀ n ∈ r, (n : Int) ≤ big) (hn : numW b big = none) :
    readHeapsF (hW :: (r.map numL ++ b :: tail)) = .error (1, r.length + 2) := by
  rw [rh_start, List.length_append, List.length_map, List.length_cons, places_eq]
  have e : max (r.length + (tail.length + 1) + 1) 3 - 1 = r.length + (tail.length + 1) := by omega
  rw [e, ← List.range'_append_1, Nat.add_comm 1 r.length]
  have := rhLoop_app (hW :: (r.map numL ++ b :: tail)) (List.range' (r.length + 1) (tail.length + 1)) r 0 [] (b :: tail) rfl (by omega) hb
  rw [Nat.zero_add] at this
  rw [this, List.range'_succ]
  unfold rhLoop
  have ha : numAt (hW :: (r.map numL ++ b :: tail)) (r.length + 1) big = none := by
    unfold numAt
    rw [List.getElem?_cons_succ, List.getElem?_append_right (by rw [List.length_map]; exact Nat.le_refl _), List.length_map, Nat.sub_self]
    exact hn
  rw [if_neg (by omega), ha]
def bads : List (List Nat) := [[120], [45, 49], [48, 49], [49, 46, 53], [43, 49], [48, 48], numL (10 ^ 30 + 1)]
theorem bad_num {b : List Nat} (hb : b ∈ bads) {most : Int} (hm : most ≤ big) : numW b most = none := by
  unfold numW
  refine if_neg fun z => ?_
  unfold bads at hb
  simp only [List.mem_cons, List.not_mem_nil, or_false] at hb
  rcases hb with e | e | e | e | e | e | e <;> subst e
  · exact absurd z.1 (by decide)
  · exact absurd z.1 (by decide)
  · exact absurd z.1 (by decide)
  · exact absurd z.1 (by decide)
  · exact absurd z.1 (by decide)
  · exact absurd z.1 (by decide)
  · have h2 := z.2
    rw [show valW (numL (10 ^ 30 + 1)) = 10 ^ 30 + 1 from numL_val _] at h2
    have : big = 1000000000000000000000000000000 := rfl
    have p30 : (10 : Nat) ^ 30 = 1000000000000000000000000000000 := by decide
    rw [p30] at h2
    omega
theorem bad_ok {b : List Nat} (hb : b ∈ bads) : OkW b ∧ b.length ≤ 31 := by
  unfold bads at hb
  simp only [List.mem_cons, List.not_mem_nil, or_false] at hb
  have one : ∀ b : List Nat, (b ≠ [] ∧ b.length ≤ 31) → (b.all fun c => !Unicode.isSpace c && decide (c < 128)) = true → OkW b ∧ b.length ≤ 31 := fun b h1 h2 => by
    rw [List.all_eq_true] at h2
    refine ⟨⟨h1.1, fun c hc => ?_, fun c hc => ?_⟩, h1.2⟩
    · have := h2 c hc
      rw [Bool.and_eq_true] at this
      simpa using this.1
    · have := h2 c hc
      rw [Bool.and_eq_true] at this
      simpa using this.2
  rcases hb with e | e | e | e | e | e | e <;> subst e
  · exact one _ (by decide) (by decide +kernel)
  · exact one _ (by decide) (by decide +kernel)
  · exact one _ (by decide) (by decide +kernel)
  · exact one _ (by decide) (by decide +kernel)
  · exact one _ (by decide) (by decide +kernel)
  · exact one _ (by decide) (by decide +kernel)
  · exact ⟨okW_num _, numL_len (by decide) (by decide)⟩
/-- a line of words -/
theorem badH_of {ws : List (List Nat)} {w : Nat} (h1 : ∀ v ∈ ws, OkW v ∧ v.length ≤ 31) (h2 : ws.length ≤ 10) (h3 : readHeapsF ws = .error (1, w)) : BadH (joinL [32] ws) w := by
  refine ⟨by rw [wds_line fun v hv => (h1 v hv).1]; exact h3, line_no10 fun v hv => (h1 v hv).1, line_lt fun v hv => (h1 v hv).1, ?_⟩
  have := len_joinL 32 31 ws fun v hv => (h1 v hv).2
  omega
theorem badS_of {n : Nat} {ws : List (List Nat)} {w : Nat} (h1 : ∀ v ∈ ws, OkW v ∧ v.length ≤ 31) (h2 : ws.length ≤ 10) (h3 : ∀ line, readStepF ws line n = .error (line, w)) : BadS n (joinL [32] ws) w := by
  refine ⟨fun line => by rw [wds_line fun v hv => (h1 v hv).1]; exact h3 line, line_no10 fun v hv => (h1 v hv).1, line_lt fun v hv => (h1 v hv).1, ?_⟩
  have := len_joinL 32 31 ws fun v hv => (h1 v hv).2
  omega
theorem ok_d : ∀ n : Nat, n < 10 → OkW [48 + n] ∧ [48 + n].length ≤ 31 := fun n hn => by
  have e := numL_lt hn
  rw [← e]
  exact ⟨okW_num n, by rw [e]; simp⟩
theorem ok_0 : OkW [48] ∧ [48].length ≤ 31 := ok_d 0 (by decide)
theorem ok_1 : OkW [49] ∧ [49].length ≤ 31 := ok_d 1 (by decide)
theorem ok_2 : OkW [50] ∧ [50].length ≤ 31 := ok_d 2 (by decide)
theorem ok_h : OkW hW ∧ hW.length ≤ 31 := ⟨okW_h, by decide⟩
theorem ok_s : OkW sW ∧ sW.length ≤ 31 := ⟨okW_s, by decide⟩
theorem ok_x : OkW [120] ∧ [120].length ≤ 31 := bad_ok (by simp [bads])
theorem ok_01 : OkW [48, 49] ∧ [48, 49].length ≤ 31 := bad_ok (by simp [bads])
def hpW : List Nat := [104, 101, 97, 112]
def ssW : List Nat := [115, 116, 101, 112, 115]
theorem ok_hp : OkW hpW ∧ hpW.length ≤ 31 := ⟨⟨by decide, by decide +kernel, by decide⟩, by decide⟩
theorem ok_ss : OkW ssW ∧ ssW.length ≤ 31 := ⟨⟨by decide, by decide +kernel, by decide⟩, by decide⟩
theorem all_one {α : Type} {P : α → Prop} {x : α} (h : P x) : ∀ v ∈ [x], P v := fun v hv => by rw [List.mem_singleton.mp hv]; exact h
theorem all_nil {α : Type} {P : α → Prop} : ∀ v ∈ ([] : List α), P v := fun v hv => by cases hv
theorem all_cons {α : Type} {P : α → Prop} {x : α} {r : List α} (h : P x) (hr : ∀ v ∈ r, P v) : ∀ v ∈ x :: r, P v := fun v hv => by
  rcases List.mem_cons.mp hv with z | z
  · rw [z]; exact h
  · exact hr v z
theorem nums_ok {h : List Int} (o : OkH h) : ∀ v ∈ h.map (fun i => numL i.toNat), OkW v ∧ v.length ≤ 31 := fun v hv => by
  obtain ⟨i, hi, rfl⟩ := List.mem_map.mp hv
  exact ⟨okW_num _, num31 (o.rg i hi).1 (o.rg i hi).2⟩
/-! the heads -/
theorem head1 {h : List Int} (o : OkH h) : BadH (joinL [32] (hpW :: h.map fun i => numL i.toNat)) 1 := badH_of (all_cons ok_hp (nums_ok o)) (by simp; have := o.l6; omega) (by
  unfold readHeapsF
  exact if_neg (fun z => by simp [hpW, hW] at z))
theorem head2 : BadH (joinL [32] [hW]) 2 := badH_of (all_one ok_h) (by decide) rfl
theorem head3 {h : List Int} (o : OkH h) : BadH (joinL [32] [hW, numL (gt h 0).toNat]) 3 := by
  have hm : gt h 0 ∈ h := by
    obtain ⟨x, l, e⟩ : ∃ x l, h = x :: l := by
      cases h with
      | nil => have := o.l2; simp at this
      | cons x l => exact ⟨x, l, rfl⟩
    rw [e]
    exact List.mem_cons_self
  have hr := o.rg _ hm
  refine badH_of (all_cons ok_h (all_one ⟨okW_num _, num31 hr.1 hr.2⟩)) (by simp) ?_
  rw [rh_start]
  show rhLoop [hW, numL (gt h 0).toNat] (List.range' 1 1 ++ [2]) [] = _
  have := rhLoop_app [hW, numL (gt h 0).toNat] [2] [(gt h 0).toNat] 0 [] [] rfl (by simp) (all_one (by omega))
  rw [show List.range' 1 1 = List.range' (0 + 1) [(gt h 0).toNat].length from rfl, this]
  rfl
theorem head4 : BadH (joinL [32] []) 1 := badH_of all_nil (by decide) (by
  unfold readHeapsF
  exact if_neg (by decide))
theorem head5 : BadH (joinL [32] [sW, [48], [49]]) 1 := badH_of (all_cons ok_s (all_cons ok_0 (all_one ok_1))) (by decide) (by
  unfold readHeapsF
  exact if_neg (by decide))
theorem rep_ok (n : Nat) : ∀ v ∈ List.replicate n [48], OkW v ∧ v.length ≤ 31 := fun v hv => by rw [List.eq_of_mem_replicate hv]; exact ok_0
theorem head6 {n : Nat} (h2 : 2 ≤ n) (h6 : n ≤ 6) : BadH (joinL [32] (hW :: List.replicate n [48])) (n + 1) := by
  refine badH_of (all_cons ok_h (rep_ok n)) (by simp; omega) ?_
  rw [rh_start, List.length_replicate, places_eq, show max (n + 1) 3 - 1 = n by omega]
  have e0 : List.replicate n [48] = (List.replicate n 0).map numL := by rw [List.map_replicate]; rw [show numL 0 = [48] from numL_lt (by decide)]
  have := rhLoop_app (hW :: List.replicate n [48]) [] (List.replicate n 0) 0 [] [] (by rw [List.append_nil]; exact e0) (by simp; omega) (fun m hm => by rw [List.eq_of_mem_replicate hm]; decide)
  rw [List.append_nil, List.length_replicate, Nat.zero_add, List.nil_append] at this
  rw [this]
  have hz : ∀ m, (List.replicate m 0).foldl max 0 = 0 := by
    intro m
    induction m with
    | zero => rfl
    | succ m ih => rw [List.replicate_succ]; exact ih
  unfold rhLoop
  rw [hz, if_pos rfl, List.length_cons, List.length_replicate]
theorem seven (r : List Nat) (h7 : r.length = 7) (hb : ∀ n ∈ r, (n : Int) ≤ big) : readHeapsF (hW :: r.map numL) = .error (1, 8) := by
  rw [rh_start, List.length_map, h7, places_eq]
  show rhLoop (hW :: r.map numL) (List.range' 1 6 ++ [7]) [] = _
  have ht : r = r.take 6 ++ r.drop 6 := (List.take_append_drop 6 r).symm
  have := rhLoop_app (hW :: r.map numL) [7] (r.take 6) 0 [] ((r.drop 6).map numL) (by rw [← List.map_append, List.take_append_drop]; rfl) (by rw [List.length_take]; omega) (fun n hn => hb n (List.mem_of_mem_take hn))
  rw [List.length_take, h7] at this
  rw [show List.range' 1 6 = List.range' (0 + 1) (min 6 7) from rfl, this]
  rfl
theorem head7 : BadH (joinL [32] (hW :: [49] :: List.replicate 6 [48])) 8 := by
  refine badH_of (all_cons ok_h (all_cons ok_1 (rep_ok 6))) (by decide) ?_
  have := seven [1, 0, 0, 0, 0, 0, 0] rfl (by decide)
  have e : ([1, 0, 0, 0, 0, 0, 0] : List Nat).map numL = [49] :: List.replicate 6 [48] := by
    simp only [List.map_cons, List.map_nil, show numL 0 = [48] from numL_lt (by decide), show numL 1 = [49] from numL_lt (by decide)]
    rfl
  rwa [e] at this
theorem head8 : BadH (joinL [32] (hW :: List.replicate 7 [48])) 8 := by
  refine badH_of (all_cons ok_h (rep_ok 7)) (by decide) ?_
  have := seven (List.replicate 7 0) rfl (by decide)
  rwa [List.map_replicate, show numL 0 = [48] from numL_lt (by decide)] at this
theorem head9 {h : List Int} (o : OkH h) {s : Nat} (hs : s < h.length) {b : List Nat} (hb : b ∈ bads) :
    BadH (joinL [32] (hW :: ((h.map fun i => numL i.toNat).take s ++ b :: (h.map fun i => numL i.toNat).drop (s + 1)))) (s + 2) := by
  have hn := nums_ok o
  refine badH_of (all_cons ok_h fun v hv => ?_) (by simp; have := o.l6; omega) ?_
  · rcases List.mem_append.mp hv with z | z
    · exact hn v (List.mem_of_mem_take z)
    · rcases List.mem_cons.mp z with z | z
      · rw [z]; exact bad_ok hb
      · exact hn v (List.mem_of_mem_drop z)
  · have e : (h.map fun i => numL i.toNat).take s = ((h.map (·.toNat)).take s).map numL := by rw [List.map_take, List.map_map]; rfl
    have l6 := o.l6
    have l2 := o.l2
    have := bad_at (r := (h.map (·.toNat)).take s) (b := b) (tail := (h.map fun i => numL i.toNat).drop (s + 1)) (by simp; omega) (by simp; omega) (fun n hm => by
      obtain ⟨i, hi, rfl⟩ := List.mem_map.mp (List.mem_of_mem_take hm)
      have := o.rg i hi
      omega) (bad_num hb (Int.le_refl _))
    rw [← e, List.length_take, List.length_map, Nat.min_eq_left (by omega)] at this
    exact this
/-! the steps -/
theorem num_0 {n : Nat} (h : 2 ≤ n) : numW [48] ((n : Int) - 1) = some 0 := by
  have := numW_num (n := 0) (most := (n : Int) - 1) (by omega) (by decide)
  rwa [show numL 0 = [48] from numL_lt (by decide)] at this
theorem num_1 {n : Nat} (h : 2 ≤ n) : numW [49] ((n : Int) - 1) = some 1 := by
  have := numW_num (n := 1) (most := (n : Int) - 1) (by omega) (by decide)
  rwa [show numL 1 = [49] from numL_lt (by decide)] at this
theorem num_n {n : Nat} : numW (numL n) ((n : Int) - 1) = none := by
  unfold numW
  refine if_neg fun z => z.2 ?_
  rw [show valW (numL n) = n from numL_val n]
  omega
theorem least {n : Nat} (h6 : n ≤ 6) : (n : Int) - 1 ≤ big := by have : big = 1000000000000000000000000000000 := rfl; omega
theorem st_no {ws : List (List Nat)} {n : Nat} (h : ws.take 1 ≠ [sW]) (line : Nat) : readStepF ws line n = .error (line, 1) := by
  unfold readStepF
  exact if_neg h
theorem st_a {ws : List (List Nat)} {n : Nat} (h0 : ws.take 1 = [sW]) (h : numAt ws 1 ((n : Int) - 1) = none) (line : Nat) : readStepF ws line n = .error (line, 2) := by
  unfold readStepF
  rw [if_pos h0, h]
theorem st_b' {ws : List (List Nat)} {n a : Nat} (h0 : ws.take 1 = [sW]) (h1 : numAt ws 1 ((n : Int) - 1) = some a) (h : numAt ws 2 ((n : Int) - 1) = none) (line : Nat) : readStepF ws line n = .error (line, 3) := by
  unfold readStepF
  rw [if_pos h0, h1]
  dsimp only
  rw [h]
theorem st_c {ws : List (List Nat)} {n a : Nat} (h0 : ws.take 1 = [sW]) (h1 : numAt ws 1 ((n : Int) - 1) = some a) (h : numAt ws 2 ((n : Int) - 1) = some a) (line : Nat) : readStepF ws line n = .error (line, 3) := by
  unfold readStepF
  rw [if_pos h0, h1]
  dsimp only
  rw [h]
  dsimp only
  rw [if_pos rfl]
theorem st_d {ws : List (List Nat)} {n a b : Nat} (h0 : ws.take 1 = [sW]) (h1 : numAt ws 1 ((n : Int) - 1) = some a) (h : numAt ws 2 ((n : Int) - 1) = some b) (hab : a ≠ b) (hl : 3 < ws.length) (line : Nat) : readStepF ws line n = .error (line, 4) := by
  unfold readStepF
  rw [if_pos h0, h1]
  dsimp only
  rw [h]
  dsimp only
  rw [if_neg hab, if_pos hl]
section
variable {n : Nat} (h2 : 2 ≤ n) (h6 : n ≤ 6)
include h2 h6
theorem turn1 : BadS n (joinL [32] [ssW, [48], [49]]) 1 := badS_of (all_cons ok_ss (all_cons ok_0 (all_one ok_1))) (by decide) (st_no (by decide))
theorem turn2 : BadS n (joinL [32] [sW]) 2 := badS_of (all_one ok_s) (by decide) (st_a rfl rfl)
theorem turn3 : BadS n (joinL [32] [sW, [48]]) 3 := badS_of (all_cons ok_s (all_one ok_0)) (by decide) (st_b' rfl (num_0 h2) rfl)
theorem turn4 : BadS n (joinL [32] [sW, [48], [48]]) 3 := badS_of (all_cons ok_s (all_cons ok_0 (all_one ok_0))) (by decide) (st_c rfl (num_0 h2) (num_0 h2))
theorem turn5 : BadS n (joinL [32] [sW, [49], [49]]) 3 := badS_of (all_cons ok_s (all_cons ok_1 (all_one ok_1))) (by decide) (st_c rfl (num_1 h2) (num_1 h2))
theorem turn6 : BadS n (joinL [32] [sW, [48], [49], [49]]) 4 := badS_of (all_cons ok_s (all_cons ok_0 (all_cons ok_1 (all_one ok_1)))) (by decide) (st_d rfl (num_0 h2) (num_1 h2) (by decide) (by decide))
theorem ok_n : OkW (numL n) ∧ (numL n).length ≤ 31 := ⟨okW_num n, Nat.le_trans (numL_len (k := 1) (by decide) (by omega)) (by decide)⟩
theorem turn7 : BadS n (joinL [32] [sW, numL n, [48]]) 2 := badS_of (all_cons ok_s (all_cons (ok_n h2 h6) (all_one ok_0))) (by simp) (st_a rfl num_n)
theorem turn8 : BadS n (joinL [32] [sW, [48], numL n]) 3 := badS_of (all_cons ok_s (all_cons ok_0 (all_one (ok_n h2 h6)))) (by simp) (st_b' rfl (num_0 h2) num_n)
theorem turn9 {b : List Nat} (hb : b ∈ bads) : BadS n (joinL [32] [sW, b, [48]]) 2 := badS_of (all_cons ok_s (all_cons (bad_ok hb) (all_one ok_0))) (by simp) (st_a rfl (bad_num hb (least h6)))
theorem turn10 : BadS n (joinL [32] [sW, [48], [120]]) 3 := badS_of (all_cons ok_s (all_cons ok_0 (all_one ok_x))) (by decide) (st_b' rfl (num_0 h2) (bad_num (by simp [bads]) (least h6)))
theorem turn11 : BadS n (joinL [32] [[48], [49]]) 1 := badS_of (all_cons ok_0 (all_one ok_1)) (by decide) (st_no (by decide))
theorem turn12 : BadS n (joinL [32] [sW, [48], [48, 49]]) 3 := badS_of (all_cons ok_s (all_cons ok_0 (all_one ok_01))) (by decide) (st_b' rfl (num_0 h2) (bad_num (by simp [bads]) (least h6)))
theorem turn13 : BadS n (joinL [32] [hW, [49], [50]]) 1 := badS_of (all_cons ok_h (all_cons ok_1 (all_one ok_2))) (by decide) (st_no (by decide))
theorem turn14 {b : List Nat} (hb : b ∈ bads) : BadS n (joinL [32] [sW, [49], b]) 3 := badS_of (all_cons ok_s (all_cons ok_1 (all_one (bad_ok hb)))) (by simp) (st_b' rfl (num_1 h2) (bad_num hb (least h6)))
theorem turn_empty (k : Nat) (hk : k ≤ 3) : BadS n (List.replicate k 32) 1 := by
  refine ⟨fun line => ?_, fun z => absurd (List.eq_of_mem_replicate z) (by decide), fun c hc => by rw [List.eq_of_mem_replicate hc]; decide, by rw [List.length_replicate]; omega⟩
  have e : wds (List.replicate k 32) = [] := by
    have := wds_sps k []
    rw [List.append_nil] at this
    exact this
  rw [e]
  exact st_no (by decide) line
end
/-! the drawn fault -/
def eF (l : List Nat) (w : Nat) : PyData := .list [eW l, .int (w : Int)]
/-- what a fault makes of the lines -/
structure Fault (h : List Int) (p : List (Nat × Nat)) (ls : List (List Nat)) (line word : Nat) : Prop where
  err : readPlanF (ls.map wds) = .error (line, word)
  nl : ∀ l ∈ ls, 10 ∉ l
  lt : ∀ l ∈ ls, ∀ c ∈ l, c < 128
  ln : ∀ l ∈ ls, l.length ≤ 400
  n : ls.length ≤ 20
  ne : ls ≠ []
def linesOf (h : List Int) (p : List (Nat × Nat)) : List (List Nat) := headL h :: p.map stepL
def sp_law_fault : Spc := fun ds A _ => ∃ h p, ds = [.list ((linesOf h p).map eW), eH h, eL p] ∧ OkH h ∧ OkP h.length p ∧ p.length ≤ 7 ∧ ∀ ls line word, Fault h p ls line word → A (.list [.list (ls.map eW), .int (line : Nat), .int (word : Nat)])
theorem lines_ok {h : List Int} {p : List (Nat × Nat)} (o : OkH h) (op : OkP h.length p) : ∀ l ∈ linesOf h p, 10 ∉ l ∧ (∀ c ∈ l, c < 128) ∧ l.length ≤ 400 := fun l hl => by
  rcases List.mem_cons.mp hl with z | z
  · rw [z]
    exact ⟨by rw [headL_eq]; exact line_no10 (okW_head h), by rw [headL_eq]; exact line_lt (okW_head h), by have := head_len o; omega⟩
  · obtain ⟨s, hs, rfl⟩ := List.mem_map.mp z
    exact ⟨by rw [stepL_eq]; exact line_no10 (okW_step s), by rw [stepL_eq]; exact line_lt (okW_step s), by have := step_len o.l6 (op s hs); omega⟩
theorem wds_lines (h : List Int) (p : List (Nat × Nat)) : (linesOf h p).map wds = headW h :: p.map stepW := by
  unfold linesOf
  rw [List.map_cons, List.map_map, headL_eq, wds_line (okW_head h)]
  congr 1
  exact List.map_congr_left fun s _ => by show wds (stepL s) = stepW s; rw [stepL_eq, wds_line (okW_step s)]
theorem fault_head {h : List Int} {p : List (Nat × Nat)} {l : List Nat} {w : Nat} (o : OkH h) (op : OkP h.length p) (hp : p.length ≤ 7) (b : BadH l w) : Fault h p (l :: (linesOf h p).drop 1) 1 w := by
  have ok := lines_ok o op
  refine ⟨by rw [List.map_cons]; exact bad_head b _, all_cons b.nl fun x hx => (ok x (List.mem_of_mem_drop hx)).1, all_cons b.lt fun x hx => (ok x (List.mem_of_mem_drop hx)).2.1, all_cons b.ln fun x hx => (ok x (List.mem_of_mem_drop hx)).2.2, ?_, by simp⟩
  simp [linesOf]
  omega
theorem fault_step {h : List Int} {p : List (Nat × Nat)} {l : List Nat} {w k : Nat} (o : OkH h) (op : OkP h.length p) (hp : p.length ≤ 7) (hk : k ≤ p.length) (b : BadS h.length l w) : Fault h p ((linesOf h p).take (k + 1) ++ l :: (linesOf h p).drop (k + 1)) (k + 2) w := by
  have ok := lines_ok o op
  refine ⟨?_, fun x hx => ?_, fun x hx => ?_, fun x hx => ?_, ?_, by simp [linesOf]⟩
  · rw [List.map_append, List.map_cons, List.map_take, List.map_drop, wds_lines, List.take_succ_cons, List.drop_succ_cons, List.cons_append, ← List.map_take]
    have := bad_step o (p := p.take k) (fun s hs => op s (List.mem_of_mem_take hs)) (by rw [List.length_take]; omega) b ((p.map stepW).drop k)
    rw [List.length_take, Nat.min_eq_left hk] at this
    exact this
  · rcases List.mem_append.mp hx with z | z
    · exact (ok x (List.mem_of_mem_take z)).1
    · rcases List.mem_cons.mp z with z | z
      · rw [z]; exact b.nl
      · exact (ok x (List.mem_of_mem_drop z)).1
  · rcases List.mem_append.mp hx with z | z
    · exact (ok x (List.mem_of_mem_take z)).2.1
    · rcases List.mem_cons.mp z with z | z
      · rw [z]; exact b.lt
      · exact (ok x (List.mem_of_mem_drop z)).2.1
  · rcases List.mem_append.mp hx with z | z
    · exact (ok x (List.mem_of_mem_take z)).2.2
    · rcases List.mem_cons.mp z with z | z
      · rw [z]; exact b.ln
      · exact (ok x (List.mem_of_mem_drop z)).2.2
  · simp [linesOf]
    omega
theorem pick {xs : List PyData} {r : Int} {n : Nat} {K : PyData → Prop} (hx : xs.length = n) (h0 : 0 ≤ r) (h1 : r < n) (Q : PyData → Prop) (hq : ∀ d ∈ xs, Q d) (hk : ∀ d, Q d → K d) : ∃ d, atD xs r = some d ∧ K d := by
  obtain ⟨j, rfl⟩ := Int.eq_ofNat_of_zero_le h0
  have hj : j < xs.length := by omega
  exact ⟨xs[j], atD_nat (List.getElem?_eq_getElem hj), hk _ (hq _ (List.getElem_mem hj))⟩
theorem lit {s : Str} {l : List Nat} (h : tl s = l) : PyData.str s = eW l := by
  show PyData.str s = .str (mkS l)
  rw [show s = mkS l from by rw [str_eq, h, tl_mkS]]
theorem tl_toS (n : Nat) : tl (toString (n : Int) : Str) = numL n := tl_num n
def w_law_fault_1 : WS :=
    (wSet 4 (wDraw 0 (wC (.int 4))))
def w_law_fault_2 : WS :=
    (wSet 5 (wFn gLen (wCons (wV 2) wNil)))
def w_law_fault_3 : WS :=
    (wSet 6 (wIx (wO (wLst (wCons (wC (.str "x")) (wCons (wC (.str "-1")) (wCons (wC (.str "01")) (wCons (wC (.str "1.5")) (wCons (wC (.str "+1")) (wCons (wC (.str "00")) (wCons (wFn gStr (wCons (wOp gAdd (wOp gPow (wC (.int 10)) (wC (.int 30))) (wC (.int 1))) wNil)) wNil))))))))) (wDraw 0 (wC (.int 7)))))
def w_law_fault_4_1 : WS :=
    (wSet 7 (wDraw 0 (wV 5)))
def w_law_fault_4_2 : WS :=
    (wSet 8 (wO (wLc (wIT (wV 2)) (wN 9) wYes (wFn gStr (wCons (wV 9) wNil)) [9])))
def w_law_fault_4_3 : WS :=
    (wOwn 10 (wLst (wCons (wO (wLst (wCons (wOp gAdd (wC (.str "heap ")) (wJoin (wC (.str " ")) (wV 8))) (wCons (wC (.int 1)) wNil)))) (wCons (wO (wLst (wCons (wC (.str "heaps")) (wCons (wC (.int 2)) wNil)))) (wCons (wO (wLst (wCons (wOp gAdd (wC (.str "heaps ")) (wIx (wV 8) (wC (.int 0)))) (wCons (wC (.int 3)) wNil)))) (wCons (wO (wLst (wCons (wC (.str "")) (wCons (wC (.int 1)) wNil)))) (wCons (wO (wLst (wCons (wC (.str "step 0 1")) (wCons (wC (.int 1)) wNil)))) wNil)))))))
def w_law_fault_4_4 : WS :=
    (wOwn 10 (wCatV 10 (wO (wLst (wCons (wO (wLst (wCons (wOp gAdd (wC (.str "heaps")) (wOp gMulT (wC (.str " 0")) (wV 5))) (wCons (wOp gAdd (wV 5) (wC (.int 1))) wNil)))) (wCons (wO (wLst (wCons (wOp gAdd (wC (.str "heaps 1")) (wOp gMulT (wC (.str " 0")) (wC (.int 6)))) (wCons (wC (.int 8)) wNil)))) (wCons (wO (wLst (wCons (wOp gAdd (wC (.str "heaps")) (wOp gMulT (wC (.str " 0")) (wC (.int 7)))) (wCons (wC (.int 8)) wNil)))) wNil)))))))
def w_law_fault_4_5 : WS :=
    (wApp 10 (wO (wLst (wCons (wJoin (wC (.str " ")) (wOp gAdd (wOp gAdd (wOp gAdd (wO (wLst (wCons (wC (.str "heaps")) wNil))) (wO (wSl (wV 8) wPn (wPs (wV 7))))) (wO (wLst (wCons (wV 6) wNil)))) (wO (wSl (wV 8) (wPs (wOp gAdd (wV 7) (wC (.int 1)))) wPn)))) (wCons (wOp gAdd (wV 7) (wC (.int 2))) wNil)))))
def w_law_fault_4_6 : WS :=
    (wSet 11 (wIxV 10 (wDraw 0 (wFn gLen (wCons (wV 10) wNil)))))
def w_law_fault_4_7 : WS :=
    (wRet (wO (wLst (wCons (wOp gAdd (wO (wLst (wCons (wIx (wV 11) (wC (.int 0))) wNil))) (wO (wSl (wV 1) (wPs (wC (.int 1))) wPn))) (wCons (wC (.int 1)) (wCons (wIx (wV 11) (wC (.int 1))) wNil))))))
def w_law_fault_4 : WS :=
    (wIfS (wB (wOp gEq (wV 4) (wC (.int 0)))) (wSeq w_law_fault_4_1
    (wSeq w_law_fault_4_2
    (wSeq w_law_fault_4_3
    (wSeq w_law_fault_4_4
    (wSeq w_law_fault_4_5
    (wSeq w_law_fault_4_6
    w_law_fault_4_7)))))) wSkip)
def w_law_fault_5 : WS :=
    (wSet 7 (wOp gAdd (wC (.int 1)) (wDraw 0 (wFn gLen (wCons (wV 1) wNil)))))
def w_law_fault_6 : WS :=
    (wIfS (wB (wOp gEq (wV 4) (wC (.int 1)))) (wRet (wO (wLst (wCons (wOp gAdd (wOp gAdd (wO (wSl (wV 1) wPn (wPs (wV 7)))) (wO (wLst (wCons (wIx (wO (wLst (wCons (wC (.str "")) (wCons (wC (.str "   ")) wNil)))) (wDraw 0 (wC (.int 2)))) wNil)))) (wO (wSl (wV 1) (wPs (wV 7)) wPn))) (wCons (wOp gAdd (wV 7) (wC (.int 1))) (wCons (wC (.int 1)) wNil)))))) wSkip)
def w_law_fault_7 : WS :=
    (wOwn 12 (wLst (wCons (wO (wLst (wCons (wC (.str "steps 0 1")) (wCons (wC (.int 1)) wNil)))) (wCons (wO (wLst (wCons (wC (.str "step")) (wCons (wC (.int 2)) wNil)))) (wCons (wO (wLst (wCons (wC (.str "step 0")) (wCons (wC (.int 3)) wNil)))) (wCons (wO (wLst (wCons (wC (.str "step 0 0")) (wCons (wC (.int 3)) wNil)))) (wCons (wO (wLst (wCons (wC (.str "step 1 1")) (wCons (wC (.int 3)) wNil)))) (wCons (wO (wLst (wCons (wC (.str "step 0 1 1")) (wCons (wC (.int 4)) wNil)))) wNil))))))))
def w_law_fault_8 : WS :=
    (wOwn 12 (wCatV 12 (wO (wLst (wCons (wO (wLst (wCons (wOp gAdd (wOp gAdd (wC (.str "step ")) (wFn gStr (wCons (wV 5) wNil))) (wC (.str " 0"))) (wCons (wC (.int 2)) wNil)))) (wCons (wO (wLst (wCons (wOp gAdd (wC (.str "step 0 ")) (wFn gStr (wCons (wV 5) wNil))) (wCons (wC (.int 3)) wNil)))) (wCons (wO (wLst (wCons (wOp gAdd (wOp gAdd (wC (.str "step ")) (wV 6)) (wC (.str " 0"))) (wCons (wC (.int 2)) wNil)))) wNil)))))))
def w_law_fault_9 : WS :=
    (wOwn 12 (wCatV 12 (wO (wLst (wCons (wO (wLst (wCons (wC (.str "step 0 x")) (wCons (wC (.int 3)) wNil)))) (wCons (wO (wLst (wCons (wC (.str "0 1")) (wCons (wC (.int 1)) wNil)))) (wCons (wO (wLst (wCons (wC (.str "step 0 01")) (wCons (wC (.int 3)) wNil)))) (wCons (wO (wLst (wCons (wC (.str "heaps 1 2")) (wCons (wC (.int 1)) wNil)))) wNil))))))))
def w_law_fault_10 : WS :=
    (wIfS (wB (wOp gIn (wV 6) (wO (wLst (wCons (wC (.str "1.5")) (wCons (wC (.str "x")) wNil)))))) (wApp 12 (wO (wLst (wCons (wOp gAdd (wC (.str "step 1 ")) (wV 6)) (wCons (wC (.int 3)) wNil))))) wSkip)
def w_law_fault_11 : WS :=
    (wSet 11 (wIxV 12 (wDraw 0 (wFn gLen (wCons (wV 12) wNil)))))
def w_law_fault_12 : WS :=
    (wRet (wO (wLst (wCons (wOp gAdd (wOp gAdd (wO (wSl (wV 1) wPn (wPs (wV 7)))) (wO (wLst (wCons (wIx (wV 11) (wC (.int 0))) wNil)))) (wO (wSl (wV 1) (wPs (wV 7)) wPn))) (wCons (wOp gAdd (wV 7) (wC (.int 1))) (wCons (wIx (wV 11) (wC (.int 1))) wNil))))))
def w_law_fault : WS :=
    (wSeq w_law_fault_1
    (wSeq w_law_fault_2
    (wSeq w_law_fault_3
    (wSeq w_law_fault_4
    (wSeq w_law_fault_5
    (wSeq w_law_fault_6
    (wSeq w_law_fault_7
    (wSeq w_law_fault_8
    (wSeq w_law_fault_9
    (wSeq w_law_fault_10
    (wSeq w_law_fault_11
    w_law_fault_12)))))))))))
def isH (d : PyData) : Prop := ∃ l w, d = eF l w ∧ BadH l w
def isS (n : Nat) (d : PyData) : Prop := ∃ l w, d = eF l w ∧ BadS n l w
theorem isH_of {s : Str} {l : List Nat} {i : Int} {w : Nat} (hs : tl s = l) (hi : i = (w : Int)) (b : BadH l w) : isH (.list [.str s, .int i]) := ⟨l, w, by rw [lit hs, hi]; rfl, b⟩
theorem isS_of {n : Nat} {s : Str} {l : List Nat} {i : Int} {w : Nat} (hs : tl s = l) (hi : i = (w : Int)) (b : BadS n l w) : isS n (.list [.str s, .int i]) := ⟨l, w, by rw [lit hs, hi]; rfl, b⟩
abbrev fs (a c : Addr) (h : List Int) (p : List (Nat × Nat)) (s4 s5 s6 s7 s8 s9 s10 s11 s12 : Slot) : Slots := [.rng a c, .im (.list ((linesOf h p).map eW)), .im (eH h), .im (eL p), s4, s5, s6, s7, s8, s9, s10, s11, s12]
theorem bad_of {r : Int} (h0 : 0 ≤ r) (h7 : r < 7) : ∃ d, atD [PyData.str (Str.ofString "x"), .str (Str.ofString "-1"), .str (Str.ofString "01"), .str (Str.ofString "1.5"), .str (Str.ofString "+1"), .str (Str.ofString "00"), .str (Str.ofString (toString ((10 : Int) ^ Int.toNat 30 + 1)))] r = some d ∧ ∃ b ∈ bads, d = eW b := by
  refine pick (n := 7) rfl h0 h7 (fun d => ∃ b ∈ bads, d = eW b) ?_ fun d hd => hd
  refine all_cons ⟨[120], by simp [bads], lit (by decide +kernel)⟩ (all_cons ⟨[45, 49], by simp [bads], lit (by decide +kernel)⟩ (all_cons ⟨[48, 49], by simp [bads], lit (by decide +kernel)⟩ (all_cons ⟨[49, 46, 53], by simp [bads], lit (by decide +kernel)⟩ (all_cons ⟨[43, 49], by simp [bads], lit (by decide +kernel)⟩ (all_cons ⟨[48, 48], by simp [bads], lit (by decide +kernel)⟩ (all_one ⟨numL (10 ^ 30 + 1), by simp [bads], lit ?_⟩))))))
  have e : ((10 : Int) ^ Int.toNat 30 + 1) = ((10 ^ 30 + 1 : Nat) : Int) := by decide
  rw [e]
  exact tl_num _
theorem mul_rep (n : Nat) : tl (Txt.mul (" 0" : Str) (n : Int)) = (List.replicate n [32, 48]).flatten := by
  have tz : tl (" 0" : Str) = [32, 48] := by decide +kernel
  have lz : (" 0" : Str).length = 2 := by decide +kernel
  unfold Txt.mul
  by_cases c : (n : Int) < 1
  · rw [if_pos c]
    have : n = 0 := by omega
    subst this
    rfl
  · rw [if_neg c]
    by_cases c1 : ((n : Int) == 1 || (" 0" : Str).length == 0) = true
    · rw [if_pos c1]
      rw [lz] at c1
      have c1 : (n : Int) = 1 := by simpa using c1
      have : n = 1 := by omega
      subst this
      exact tz
    · rw [if_neg c1, Int.toNat_natCast]
      show (List.foldl (· ++ ·) #[] (List.replicate n (" 0" : Str).cps)).toList = _
      have : ∀ (m : Nat) (acc : Array Nat), (List.foldl (· ++ ·) acc (List.replicate m (" 0" : Str).cps)).toList = acc.toList ++ (List.replicate m [32, 48]).flatten := by
        intro m
        induction m with
        | zero => intro acc; simp
        | succ m ih =>
          intro acc
          rw [List.replicate_succ, List.foldl_cons, ih, List.replicate_succ, List.flatten_cons, Array.toList_append, List.append_assoc]
          have : (" 0" : Str).cps.toList = [32, 48] := tz
          rw [this]
      simpa using this n #[]
theorem rep_join (w : List Nat) : ∀ n : Nat, joinL [32] (w :: List.replicate n [48]) = w ++ (List.replicate n [32, 48]).flatten
  | 0 => by simp [joinL]
  | n + 1 => by
    rw [List.replicate_succ, List.replicate_succ, List.flatten_cons]
    show w ++ ([32] ++ joinL [32] ([48] :: List.replicate n [48])) = _
    rw [rep_join [48] n]
    simp
theorem len_mul_le {n : Nat} (h : n ≤ 10) : (Txt.mul (" 0" : Str) (n : Int)).length ≤ 20 := by
  rw [len_tl, mul_rep]
  have : ∀ m : Nat, ((List.replicate m [32, 48]).flatten : List Nat).length = 2 * m := by
    intro m
    induction m with
    | zero => rfl
    | succ m ih => rw [List.replicate_succ, List.flatten_cons, List.length_append, ih]; simp; omega
  rw [this]
  omega
theorem lz : (" 0" : Str).length = 2 := by decide +kernel
theorem lsp : (" " : Str).length = 1 := by decide +kernel
section
variable {a c : Addr} {h : List Int} {p : List (Nat × Nat)} {s4 s5 s6 s7 s8 s9 s10 s11 s12 : Slot} {P : En}
abbrev wordsD (ns : List (List Nat)) : PyData := .list (ns.map eW)
theorem f43 {ns : List (List Nat)} {n0 : List Nat} (hne : ns ≠ []) (hl : ns.length ≤ 6) (nb : ∀ w ∈ ns, w.length ≤ 31) (h0 : ns[0]? = some n0) (b1 : BadH (joinL [32] (hpW :: ns)) 1) (b3 : BadH (joinL [32] [hW, n0]) 3)
    (hN : ∀ xs, xs.length = 5 → (∀ d ∈ xs, isH d) → P.nx (fs a c h p s4 s5 s6 s7 (.im (wordsD ns)) s9 (.ol xs) .un .un)) :
    w_law_fault_4_3 (fs a c h p s4 s5 s6 s7 (.im (wordsD ns)) s9 .un .un .un) P := by
  have hj1 : ((ns.map mkS).map (·.length)).sum + (ns.map mkS).length * (" " : Str).length ≤ 16777216 := join_fit nb (by rw [lsp]; omega)
  have hjl := len_joinL 32 31 ns nb
  have a0 : atD (ns.map eW) 0 = some (eW n0) := atD_map (f := eW) (l := ns) (i := 0) h0
  have n31 : n0.length ≤ 31 := nb _ (List.mem_of_getElem? h0)
  have z5 : ("heap " : Str).length = 5 := by decide +kernel
  have z6 : ("heaps " : Str).length = 6 := by decide +kernel
  have j1 : tl (("heap " : Str) ++ mkS (joinL [32] ns)) = joinL [32] (hpW :: ns) := by
    rw [tl_append, tl_mkS, show tl ("heap " : Str) = hpW ++ [32] by decide +kernel]
    obtain ⟨x, l, rfl⟩ : ∃ x l, ns = x :: l := by
      cases ns with
      | nil => exact absurd rfl hne
      | cons x l => exact ⟨_, _, rfl⟩
    show hpW ++ [32] ++ joinL [32] (x :: l) = hpW ++ ([32] ++ joinL [32] (x :: l))
    rw [List.append_assoc]
  have j3 : tl (("heaps " : Str) ++ mkS n0) = joinL [32] [hW, n0] := by
    rw [tl_append, tl_mkS, show tl ("heaps " : Str) = hW ++ [32] by decide +kernel, List.append_assoc]
    rfl
  simp only [w_law_fault_4_3, bl?, g2, gAdd, gDiv, gEq, gGe, gGt, gI, gIn, gInt, gIs, gIsNot, gLe, gLen, gList, gLt, gMM, gMod, gMul, gMulS, gNe, gNotIn, gPow, gSorted, gSub, gIadd, gSum, gTuple, puts, sV, sVs, slotM, wAnd, wApp, wAsg, wAug, wAugI, wB, wC, wCall, wCallR, wChain, wCons, wDraw, wDrop, wEnL, wEnT, wExt, wFn, wFnO, wFor, wGCons, wGNil, wGT, wIL, wIT, wIdx, wIf, wIfS, wIsi, wIx, wLc, wLst, wMNil, wMO, wMV, wMix, wN, wNeg, wNil, wNot, wNotT, wO, wOp, wOr, wOwn, wPar, wR1, wR2, wRaise, wRaiseF, wRet, wSeq, wSet, wSetI, wSkip, wTAnd, wTNot, wTOr, wTru, wTry, wTryF, wTup, wV, wYes, wSplit, wJoin, wRstrip, wFmt, wJNil, wJCons, wJs, gStr, gIntS, wIS, gSignNotIn, wSl, wSlt, wPn, wPs, gMulT, wGL, wTryAs, wXf, wXis, wCat, wCatV, wIxV, startS, List.length_cons, List.length_nil, List.map_cons, List.map_nil, List.getElem?_cons_zero, List.getElem?_cons_succ, List.set_cons_zero, List.set_cons_succ, List.cons_append, List.nil_append, List.append_nil, List.replicate_succ, List.replicate_zero, Nat.reduceAdd, Nat.reduceSub, ↓reduceIte, Bool.false_eq_true, reduceCtorEq, true_and, and_true, true_or, or_true, false_or, or_false, Bool.not_true, Bool.not_false, Bool.true_and, Bool.false_and, Bool.and_true, decide_eq_true_eq, Bool.not_eq_eq_eq_not, exists_eq_left, exists_eq_left', Option.some.injEq, fs, strs_eW, a0, eW]
  rw [join_mk, tl_sp, len_mkS, len_mkS, z5, z6]
  refine ⟨hj1, by rw [sizeLine_eq]; omega, by decide, by decide, by rw [sizeLine_eq]; omega, by decide, by decide, by decide, by decide, hN _ rfl ?_⟩
  exact all_cons (isH_of j1 rfl b1) (all_cons (isH_of (w := 2) (by decide +kernel) rfl head2) (all_cons (isH_of j3 rfl b3) (all_cons (isH_of (w := 1) (by decide +kernel) rfl head4) (all_one (isH_of (w := 1) (by decide +kernel) rfl head5)))))
theorem f44 (oh : OkH h) {xs : List PyData} (hl : xs.length = 5) (hx : ∀ d ∈ xs, isH d) (hN : ∀ xs, xs.length = 8 → (∀ d ∈ xs, isH d) → P.nx (fs a c h p s4 (.im (.int h.length)) s6 s7 s8 s9 (.ol xs) s11 s12)) :
    w_law_fault_4_4 (fs a c h p s4 (.im (.int h.length)) s6 s7 s8 s9 (.ol xs) s11 s12) P := by
  have l2 := oh.l2
  have l6 := oh.l6
  have z5 : ("heaps" : Str).length = 5 := by decide +kernel
  have z7 : ("heaps 1" : Str).length = 7 := by decide +kernel
  have m1 := len_mul_le (n := h.length) (by omega)
  have m2 := len_mul_le (n := 6) (by decide)
  have m3 := len_mul_le (n := 7) (by decide)
  have t1 : tl (("heaps" : Str) ++ Txt.mul (" 0" : Str) (h.length : Int)) = joinL [32] (hW :: List.replicate h.length [48]) := by
    rw [tl_append, mul_rep, rep_join, show tl ("heaps" : Str) = hW by decide +kernel]
  have t2 : tl (("heaps 1" : Str) ++ Txt.mul (" 0" : Str) ((6 : Nat) : Int)) = joinL [32] (hW :: [49] :: List.replicate 6 [48]) := by
    rw [tl_append, mul_rep, show tl ("heaps 1" : Str) = hW ++ [32, 49] by decide +kernel]
    decide +kernel
  have t3 : tl (("heaps" : Str) ++ Txt.mul (" 0" : Str) ((7 : Nat) : Int)) = joinL [32] (hW :: List.replicate 7 [48]) := by
    rw [tl_append, mul_rep, rep_join, show tl ("heaps" : Str) = hW by decide +kernel]
  have q6 : ((6 : Nat) : Int) = 6 := rfl
  have q7 : ((7 : Nat) : Int) = 7 := rfl
  rw [q6] at m2 t2
  rw [q7] at m3 t3
  simp only [w_law_fault_4_4, bl?, g2, gAdd, gDiv, gEq, gGe, gGt, gI, gIn, gInt, gIs, gIsNot, gLe, gLen, gList, gLt, gMM, gMod, gMul, gMulS, gNe, gNotIn, gPow, gSorted, gSub, gIadd, gSum, gTuple, puts, sV, sVs, slotM, wAnd, wApp, wAsg, wAug, wAugI, wB, wC, wCall, wCallR, wChain, wCons, wDraw, wDrop, wEnL, wEnT, wExt, wFn, wFnO, wFor, wGCons, wGNil, wGT, wIL, wIT, wIdx, wIf, wIfS, wIsi, wIx, wLc, wLst, wMNil, wMO, wMV, wMix, wN, wNeg, wNil, wNot, wNotT, wO, wOp, wOr, wOwn, wPar, wR1, wR2, wRaise, wRaiseF, wRet, wSeq, wSet, wSetI, wSkip, wTAnd, wTNot, wTOr, wTru, wTry, wTryF, wTup, wV, wYes, wSplit, wJoin, wRstrip, wFmt, wJNil, wJCons, wJs, gStr, gIntS, wIS, gSignNotIn, wSl, wSlt, wPn, wPs, gMulT, wGL, wTryAs, wXf, wXis, wCat, wCatV, wIxV, startS, List.length_cons, List.length_nil, List.map_cons, List.map_nil, List.getElem?_cons_zero, List.getElem?_cons_succ, List.set_cons_zero, List.set_cons_succ, List.cons_append, List.nil_append, List.append_nil, List.replicate_succ, List.replicate_zero, Nat.reduceAdd, Nat.reduceSub, ↓reduceIte, Bool.false_eq_true, reduceCtorEq, true_and, and_true, true_or, or_true, false_or, or_false, Bool.not_true, Bool.not_false, Bool.true_and, Bool.false_and, Bool.and_true, decide_eq_true_eq, Bool.not_eq_eq_eq_not, exists_eq_left, exists_eq_left', Option.some.injEq, fs, lz, z5, z7, hl]
  refine ⟨⟨_, rfl⟩, ?_⟩
  repeat refine ⟨by first | omega | decide | (rw [sizeLine_eq]; omega), ?_⟩
  refine hN _ ?_ fun d hd => ?_
  · rw [List.length_append, hl]; rfl
  · rcases List.mem_append.mp hd with z | z
    · exact hx d z
    · exact all_cons (isH_of t1 (by omega) (head6 l2 l6)) (all_cons (isH_of (w := 8) t2 rfl head7) (all_one (isH_of (w := 8) t3 rfl head8))) d z
theorem f45 (oh : OkH h) {b : List Nat} (hb : b ∈ bads) {s : Nat} (hs : s < h.length) {ns : List (List Nat)} (hns : ns = h.map fun i => numL i.toNat) {xs : List PyData} (hl : xs.length = 8) (hx : ∀ d ∈ xs, isH d) (hN : ∀ xs, xs.length = 9 → (∀ d ∈ xs, isH d) → P.nx (fs a c h p s4 s5 (.im (eW b)) (.im (.int (s : Nat))) (.im (wordsD ns)) s9 (.ol xs) s11 s12)) :
    w_law_fault_4_5 (fs a c h p s4 s5 (.im (eW b)) (.im (.int (s : Nat))) (.im (wordsD ns)) s9 (.ol xs) s11 s12) P := by
  have l2 := oh.l2
  have l6 := oh.l6
  have hnl : ns.length = h.length := by rw [hns, List.length_map]
  have b9 := head9 oh hs hb
  rw [← hns] at b9
  have nb : ∀ w ∈ ns, w.length ≤ 31 := fun w hw => by rw [hns] at hw; exact (nums_ok oh w hw).2
  have e1 : cutL (ns.map eW) none (some (s : Int)) = (ns.take s).map eW := by rw [cut_take, List.map_take]
  have e2 : cutL (ns.map eW) (some ((s : Int) + 1)) none = (ns.drop (s + 1)).map eW := by
    rw [show (s : Int) + 1 = ((s + 1 : Nat) : Int) by omega, cut_drop, List.map_drop]
  have f1 : flats ((ns.take s).map eW) = true := flats_eW _
  have f2 : flats ((ns.drop (s + 1)).map eW) = true := flats_eW _
  have eh : PyData.str ("heaps" : Str) = eW hW := lit (by decide +kernel)
  have q1 : (ns.take s).length ≤ 6 := by rw [List.length_take]; omega
  have q2 : (ns.drop (s + 1)).length ≤ 6 := by rw [List.length_drop]; omega
  have sL := sizeLine_eq
  simp only [w_law_fault_4_5, bl?, g2, gAdd, gDiv, gEq, gGe, gGt, gI, gIn, gInt, gIs, gIsNot, gLe, gLen, gList, gLt, gMM, gMod, gMul, gMulS, gNe, gNotIn, gPow, gSorted, gSub, gIadd, gSum, gTuple, puts, sV, sVs, slotM, wAnd, wApp, wAsg, wAug, wAugI, wB, wC, wCall, wCallR, wChain, wCons, wDraw, wDrop, wEnL, wEnT, wExt, wFn, wFnO, wFor, wGCons, wGNil, wGT, wIL, wIT, wIdx, wIf, wIfS, wIsi, wIx, wLc, wLst, wMNil, wMO, wMV, wMix, wN, wNeg, wNil, wNot, wNotT, wO, wOp, wOr, wOwn, wPar, wR1, wR2, wRaise, wRaiseF, wRet, wSeq, wSet, wSetI, wSkip, wTAnd, wTNot, wTOr, wTru, wTry, wTryF, wTup, wV, wYes, wSplit, wJoin, wRstrip, wFmt, wJNil, wJCons, wJs, gStr, gIntS, wIS, gSignNotIn, wSl, wSlt, wPn, wPs, gMulT, wGL, wTryAs, wXf, wXis, wCat, wCatV, wIxV, startS, List.length_cons, List.length_nil, List.map_cons, List.map_nil, List.getElem?_cons_zero, List.getElem?_cons_succ, List.set_cons_zero, List.set_cons_succ, List.cons_append, List.nil_append, List.append_nil, List.replicate_succ, List.replicate_zero, Nat.reduceAdd, Nat.reduceSub, ↓reduceIte, Bool.false_eq_true, reduceCtorEq, true_and, and_true, true_or, or_true, false_or, or_false, Bool.not_true, Bool.not_false, Bool.true_and, Bool.false_and, Bool.and_true, decide_eq_true_eq, Bool.not_eq_eq_eq_not, exists_eq_left, exists_eq_left', Option.some.injEq, fs, e1, e2, f1, f2, eh, List.length_map, List.length_append]
  refine ⟨⟨_, rfl⟩, ?_⟩
  repeat refine ⟨by first | omega | decide | (rw [sizeLine_eq]; omega), ?_⟩
  have ew : eW hW :: (((ns.take s).map eW ++ [eW b]) ++ (ns.drop (s + 1)).map eW) = (hW :: (ns.take s ++ b :: ns.drop (s + 1))).map eW := by simp
  have nb2 : ∀ w ∈ hW :: (ns.take s ++ b :: ns.drop (s + 1)), w.length ≤ 31 := fun w hw => by
    rcases List.mem_cons.mp hw with z | z
    · rw [z]; decide
    · rcases List.mem_append.mp z with z | z
      · exact nb w (List.mem_of_mem_take z)
      · rcases List.mem_cons.mp z with z | z
        · rw [z]; exact (bad_ok hb).2
        · exact nb w (List.mem_of_mem_drop z)
  refine ⟨(hW :: (ns.take s ++ b :: ns.drop (s + 1))).map mkS, by rw [ew]; exact strs_eW _, join_fit nb2 (by rw [lsp]; simp; omega), by decide, by rw [hl]; decide, hN _ ?_ fun d hd => ?_⟩
  · rw [List.length_append, hl]; rfl
  · rcases List.mem_append.mp hd with z | z
    · exact hx d z
    · refine all_one (isH_of (w := s + 2) (l := joinL [32] (hW :: (ns.take s ++ b :: ns.drop (s + 1)))) ?_ (by omega) b9) d z
      rw [join_mk, tl_sp, tl_mkS]
theorem f467 {size : Int} (oh : OkH h) (op : OkP h.length p) (hp : p.length ≤ 7) {A : PyData → Prop} {B : XC → Prop} (hA : ∀ ls line word, Fault h p ls line word → A (.list [.list (ls.map eW), .int (line : Nat), .int (word : Nat)])) {xs : List PyData} (hl : xs.length = 9) (hx : ∀ d ∈ xs, isH d)
    (hrt : ∀ d S, S[0]? = some (.rng a c) → A d → P.rt d True S) (hcl : ∀ d (cc : Prop) S, cc → P.rt d True S → P.rt d cc S) :
    wSeq w_law_fault_4_6 w_law_fault_4_7 (fs a c h p s4 s5 s6 s7 s8 s9 (.ol xs) s11 s12) P := by
  have e31 : (10 : Int) ^ 31 = 10000000000000000000000000000000 := by decide
  refine seq_cut (fun S => ∃ l w, BadH l w ∧ S = fs a c h p s4 s5 s6 s7 s8 s9 (.ol xs) (.im (eF l w)) s12) (fun Nx hN => ?_) ?_
  · simp only [w_law_fault_4_6, bl?, g2, gAdd, gDiv, gEq, gGe, gGt, gI, gIn, gInt, gIs, gIsNot, gLe, gLen, gList, gLt, gMM, gMod, gMul, gMulS, gNe, gNotIn, gPow, gSorted, gSub, gIadd, gSum, gTuple, puts, sV, sVs, slotM, wAnd, wApp, wAsg, wAug, wAugI, wB, wC, wCall, wCallR, wChain, wCons, wDraw, wDrop, wEnL, wEnT, wExt, wFn, wFnO, wFor, wGCons, wGNil, wGT, wIL, wIT, wIdx, wIf, wIfS, wIsi, wIx, wLc, wLst, wMNil, wMO, wMV, wMix, wN, wNeg, wNil, wNot, wNotT, wO, wOp, wOr, wOwn, wPar, wR1, wR2, wRaise, wRaiseF, wRet, wSeq, wSet, wSetI, wSkip, wTAnd, wTNot, wTOr, wTru, wTry, wTryF, wTup, wV, wYes, wSplit, wJoin, wRstrip, wFmt, wJNil, wJCons, wJs, gStr, gIntS, wIS, gSignNotIn, wSl, wSlt, wPn, wPs, gMulT, wGL, wTryAs, wXf, wXis, wCat, wCatV, wIxV, startS, List.length_cons, List.length_nil, List.map_cons, List.map_nil, List.getElem?_cons_zero, List.getElem?_cons_succ, List.set_cons_zero, List.set_cons_succ, List.cons_append, List.nil_append, List.append_nil, List.replicate_succ, List.replicate_zero, Nat.reduceAdd, Nat.reduceSub, ↓reduceIte, Bool.false_eq_true, reduceCtorEq, true_and, and_true, true_or, or_true, false_or, or_false, Bool.not_true, Bool.not_false, Bool.true_and, Bool.false_and, Bool.and_true, decide_eq_true_eq, Bool.not_eq_eq_eq_not, exists_eq_left, exists_eq_left', Option.some.injEq, fs, hl]
    refine ⟨⟨_, rfl⟩, a, c, rfl, rfl, by decide, by rw [e31]; decide, fun r r0 r1 => ?_⟩
    exact pick hl r0 r1 isH hx fun d hd => by
      obtain ⟨l, w, rfl, b⟩ := hd
      exact hN _ ⟨l, w, b, rfl⟩
  rintro S ⟨l, w, b, rfl⟩
  have e1 : cutL ((linesOf h p).map eW) (some 1) none = ((linesOf h p).drop 1).map eW := by
    have := cut_drop ((linesOf h p).map eW) 1
    rw [List.map_drop]
    exact this
  have f1 : flats (((linesOf h p).drop 1).map eW) = true := flats_eW _
  have g0 : atD [eW l, PyData.int (w : Int)] 0 = some (eW l) := rfl
  have g1 : atD [eW l, PyData.int (w : Int)] 1 = some (.int (w : Int)) := rfl
  have hd : ((linesOf h p).drop 1).length ≤ 7 := by simp [linesOf]; omega
  simp only [w_law_fault_4_7, bl?, g2, gAdd, gDiv, gEq, gGe, gGt, gI, gIn, gInt, gIs, gIsNot, gLe, gLen, gList, gLt, gMM, gMod, gMul, gMulS, gNe, gNotIn, gPow, gSorted, gSub, gIadd, gSum, gTuple, puts, sV, sVs, slotM, wAnd, wApp, wAsg, wAug, wAugI, wB, wC, wCall, wCallR, wChain, wCons, wDraw, wDrop, wEnL, wEnT, wExt, wFn, wFnO, wFor, wGCons, wGNil, wGT, wIL, wIT, wIdx, wIf, wIfS, wIsi, wIx, wLc, wLst, wMNil, wMO, wMV, wMix, wN, wNeg, wNil, wNot, wNotT, wO, wOp, wOr, wOwn, wPar, wR1, wR2, wRaise, wRaiseF, wRet, wSeq, wSet, wSetI, wSkip, wTAnd, wTNot, wTOr, wTru, wTry, wTryF, wTup, wV, wYes, wSplit, wJoin, wRstrip, wFmt, wJNil, wJCons, wJs, gStr, gIntS, wIS, gSignNotIn, wSl, wSlt, wPn, wPs, gMulT, wGL, wTryAs, wXf, wXis, wCat, wCatV, wIxV, startS, List.length_cons, List.length_nil, List.map_cons, List.map_nil, List.getElem?_cons_zero, List.getElem?_cons_succ, List.set_cons_zero, List.set_cons_succ, List.cons_append, List.nil_append, List.append_nil, List.replicate_succ, List.replicate_zero, Nat.reduceAdd, Nat.reduceSub, ↓reduceIte, Bool.false_eq_true, reduceCtorEq, true_and, and_true, true_or, or_true, false_or, or_false, Bool.not_true, Bool.not_false, Bool.true_and, Bool.false_and, Bool.and_true, decide_eq_true_eq, Bool.not_eq_eq_eq_not, exists_eq_left, exists_eq_left', Option.some.injEq, fs, eF, g0, g1, e1, f1, List.length_map]
  repeat refine ⟨by first | omega | decide | (rw [sizeLine_eq]; omega), ?_⟩
  have := hA _ 1 w (fault_head oh op hp b)
  rw [List.map_cons] at this
  refine hcl _ _ _ (by simp [flat_eW, flats, flat]) (hrt _ _ rfl this)
/-- a row put between -/
theorem put_row {size : Int} (oh : OkH h) (op : OkP h.length p) (hp : p.length ≤ 7) {A : PyData → Prop} (hA : ∀ ls line word, Fault h p ls line word → A (.list [.list (ls.map eW), .int (line : Nat), .int (word : Nat)])) {k : Nat} (hk : k ≤ p.length) {l : List Nat} {w : Nat} (b : BadS h.length l w) :
    A (.list [.list (((linesOf h p).take (k + 1)).map eW ++ [eW l] ++ ((linesOf h p).drop (k + 1)).map eW), .int ((k + 2 : Nat) : Int), .int (w : Int)]) := by
  have := hA _ (k + 2) w (fault_step oh op hp hk b)
  rw [List.map_append, List.map_cons] at this
  rw [List.append_assoc]
  exact this
theorem g7 {n : Nat} (h2 : 2 ≤ n) (h6 : n ≤ 6) (hN : ∀ xs, xs.length = 6 → (∀ d ∈ xs, isS n d) → P.nx (fs a c h p s4 s5 s6 s7 s8 s9 s10 s11 (.ol xs))) :
    w_law_fault_7 (fs a c h p s4 s5 s6 s7 s8 s9 s10 s11 .un) P := by
  simp only [w_law_fault_7, bl?, g2, gAdd, gDiv, gEq, gGe, gGt, gI, gIn, gInt, gIs, gIsNot, gLe, gLen, gList, gLt, gMM, gMod, gMul, gMulS, gNe, gNotIn, gPow, gSorted, gSub, gIadd, gSum, gTuple, puts, sV, sVs, slotM, wAnd, wApp, wAsg, wAug, wAugI, wB, wC, wCall, wCallR, wChain, wCons, wDraw, wDrop, wEnL, wEnT, wExt, wFn, wFnO, wFor, wGCons, wGNil, wGT, wIL, wIT, wIdx, wIf, wIfS, wIsi, wIx, wLc, wLst, wMNil, wMO, wMV, wMix, wN, wNeg, wNil, wNot, wNotT, wO, wOp, wOr, wOwn, wPar, wR1, wR2, wRaise, wRaiseF, wRet, wSeq, wSet, wSetI, wSkip, wTAnd, wTNot, wTOr, wTru, wTry, wTryF, wTup, wV, wYes, wSplit, wJoin, wRstrip, wFmt, wJNil, wJCons, wJs, gStr, gIntS, wIS, gSignNotIn, wSl, wSlt, wPn, wPs, gMulT, wGL, wTryAs, wXf, wXis, wCat, wCatV, wIxV, startS, List.length_cons, List.length_nil, List.map_cons, List.map_nil, List.getElem?_cons_zero, List.getElem?_cons_succ, List.set_cons_zero, List.set_cons_succ, List.cons_append, List.nil_append, List.append_nil, List.replicate_succ, List.replicate_zero, Nat.reduceAdd, Nat.reduceSub, ↓reduceIte, Bool.false_eq_true, reduceCtorEq, true_and, and_true, true_or, or_true, false_or, or_false, Bool.not_true, Bool.not_false, Bool.true_and, Bool.false_and, Bool.and_true, decide_eq_true_eq, Bool.not_eq_eq_eq_not, exists_eq_left, exists_eq_left', Option.some.injEq, fs]
  repeat refine ⟨by first | omega | decide | (rw [sizeLine_eq]; omega), ?_⟩
  refine hN _ rfl ?_
  exact all_cons (isS_of (w := 1) (by decide +kernel) rfl (turn1 h2 h6)) (all_cons (isS_of (w := 2) (by decide +kernel) rfl (turn2 h2 h6)) (all_cons (isS_of (w := 3) (by decide +kernel) rfl (turn3 h2 h6)) (all_cons (isS_of (w := 3) (by decide +kernel) rfl (turn4 h2 h6)) (all_cons (isS_of (w := 3) (by decide +kernel) rfl (turn5 h2 h6)) (all_one (isS_of (w := 4) (by decide +kernel) rfl (turn6 h2 h6)))))))
theorem g8 {n : Nat} (h2 : 2 ≤ n) (h6 : n ≤ 6) {b : List Nat} (hb : b ∈ bads) {xs : List PyData} (hl : xs.length = 6) (hx : ∀ d ∈ xs, isS n d) (hN : ∀ xs, xs.length = 9 → (∀ d ∈ xs, isS n d) → P.nx (fs a c h p s4 (.im (.int (n : Nat))) (.im (eW b)) s7 s8 s9 s10 s11 (.ol xs))) :
    w_law_fault_8 (fs a c h p s4 (.im (.int (n : Nat))) (.im (eW b)) s7 s8 s9 s10 s11 (.ol xs)) P := by
  have z5 : ("step " : Str).length = 5 := by decide +kernel
  have z7 : ("step 0 " : Str).length = 7 := by decide +kernel
  have n1 : (numL n).length ≤ 1 := numL_len (by decide) (by omega)
  have bl := (bad_ok hb).2
  have hlog : (n : Int).natAbs.log2 < 1920 := log_small (by omega) (by have : big = 1000000000000000000000000000000 := rfl; omega)
  have e1 := strI_nat n
  unfold strI at e1
  have t0 : tl ("step " : Str) = sW ++ [32] := by decide +kernel
  have tz : tl (" 0" : Str) = [32, 48] := by decide +kernel
  have t1 : tl (("step " : Str) ++ mkS (numL n) ++ (" 0" : Str)) = joinL [32] [sW, numL n, [48]] := by
    rw [tl_append, tl_append, tl_mkS, t0, tz]
    show sW ++ [32] ++ numL n ++ [32, 48] = sW ++ ([32] ++ (numL n ++ ([32] ++ [48])))
    simp
  have t2 : tl (("step 0 " : Str) ++ mkS (numL n)) = joinL [32] [sW, [48], numL n] := by
    rw [tl_append, tl_mkS, show tl ("step 0 " : Str) = sW ++ [32, 48, 32] by decide +kernel]
    show sW ++ [32, 48, 32] ++ numL n = sW ++ ([32] ++ ([48] ++ ([32] ++ numL n)))
    simp
  have t3 : tl (("step " : Str) ++ mkS b ++ (" 0" : Str)) = joinL [32] [sW, b, [48]] := by
    rw [tl_append, tl_append, tl_mkS, t0, tz]
    show sW ++ [32] ++ b ++ [32, 48] = sW ++ ([32] ++ (b ++ ([32] ++ [48])))
    simp
  simp only [w_law_fault_8, bl?, g2, gAdd, gDiv, gEq, gGe, gGt, gI, gIn, gInt, gIs, gIsNot, gLe, gLen, gList, gLt, gMM, gMod, gMul, gMulS, gNe, gNotIn, gPow, gSorted, gSub, gIadd, gSum, gTuple, puts, sV, sVs, slotM, wAnd, wApp, wAsg, wAug, wAugI, wB, wC, wCall, wCallR, wChain, wCons, wDraw, wDrop, wEnL, wEnT, wExt, wFn, wFnO, wFor, wGCons, wGNil, wGT, wIL, wIT, wIdx, wIf, wIfS, wIsi, wIx, wLc, wLst, wMNil, wMO, wMV, wMix, wN, wNeg, wNil, wNot, wNotT, wO, wOp, wOr, wOwn, wPar, wR1, wR2, wRaise, wRaiseF, wRet, wSeq, wSet, wSetI, wSkip, wTAnd, wTNot, wTOr, wTru, wTry, wTryF, wTup, wV, wYes, wSplit, wJoin, wRstrip, wFmt, wJNil, wJCons, wJs, gStr, gIntS, wIS, gSignNotIn, wSl, wSlt, wPn, wPs, gMulT, wGL, wTryAs, wXf, wXis, wCat, wCatV, wIxV, startS, List.length_cons, List.length_nil, List.map_cons, List.map_nil, List.getElem?_cons_zero, List.getElem?_cons_succ, List.set_cons_zero, List.set_cons_succ, List.cons_append, List.nil_append, List.append_nil, List.replicate_succ, List.replicate_zero, Nat.reduceAdd, Nat.reduceSub, ↓reduceIte, Bool.false_eq_true, reduceCtorEq, true_and, and_true, true_or, or_true, false_or, or_false, Bool.not_true, Bool.not_false, Bool.true_and, Bool.false_and, Bool.and_true, decide_eq_true_eq, Bool.not_eq_eq_eq_not, exists_eq_left, exists_eq_left', Option.some.injEq, fs, e1, len_append, len_mkS, z5, z7, lz, hlog, eW, hl]
  refine ⟨⟨_, rfl⟩, ?_⟩
  repeat refine ⟨by first | omega | decide | (rw [sizeLine_eq]; omega), ?_⟩
  refine hN _ ?_ fun d hd => ?_
  · rw [List.length_append, hl]; rfl
  · rcases List.mem_append.mp hd with z | z
    · exact hx d z
    · exact all_cons (isS_of (w := 2) t1 rfl (turn7 h2 h6)) (all_cons (isS_of (w := 3) t2 rfl (turn8 h2 h6)) (all_one (isS_of (w := 2) t3 rfl (turn9 h2 h6 hb)))) d z
theorem g9 {n : Nat} (h2 : 2 ≤ n) (h6 : n ≤ 6) {xs : List PyData} (hl : xs.length = 9) (hx : ∀ d ∈ xs, isS n d) (hN : ∀ xs, xs.length = 13 → (∀ d ∈ xs, isS n d) → P.nx (fs a c h p s4 s5 s6 s7 s8 s9 s10 s11 (.ol xs))) :
    w_law_fault_9 (fs a c h p s4 s5 s6 s7 s8 s9 s10 s11 (.ol xs)) P := by
  simp only [w_law_fault_9, bl?, g2, gAdd, gDiv, gEq, gGe, gGt, gI, gIn, gInt, gIs, gIsNot, gLe, gLen, gList, gLt, gMM, gMod, gMul, gMulS, gNe, gNotIn, gPow, gSorted, gSub, gIadd, gSum, gTuple, puts, sV, sVs, slotM, wAnd, wApp, wAsg, wAug, wAugI, wB, wC, wCall, wCallR, wChain, wCons, wDraw, wDrop, wEnL, wEnT, wExt, wFn, wFnO, wFor, wGCons, wGNil, wGT, wIL, wIT, wIdx, wIf, wIfS, wIsi, wIx, wLc, wLst, wMNil, wMO, wMV, wMix, wN, wNeg, wNil, wNot, wNotT, wO, wOp, wOr, wOwn, wPar, wR1, wR2, wRaise, wRaiseF, wRet, wSeq, wSet, wSetI, wSkip, wTAnd, wTNot, wTOr, wTru, wTry, wTryF, wTup, wV, wYes, wSplit, wJoin, wRstrip, wFmt, wJNil, wJCons, wJs, gStr, gIntS, wIS, gSignNotIn, wSl, wSlt, wPn, wPs, gMulT, wGL, wTryAs, wXf, wXis, wCat, wCatV, wIxV, startS, List.length_cons, List.length_nil, List.map_cons, List.map_nil, List.getElem?_cons_zero, List.getElem?_cons_succ, List.set_cons_zero, List.set_cons_succ, List.cons_append, List.nil_append, List.append_nil, List.replicate_succ, List.replicate_zero, Nat.reduceAdd, Nat.reduceSub, ↓reduceIte, Bool.false_eq_true, reduceCtorEq, true_and, and_true, true_or, or_true, false_or, or_false, Bool.not_true, Bool.not_false, Bool.true_and, Bool.false_and, Bool.and_true, decide_eq_true_eq, Bool.not_eq_eq_eq_not, exists_eq_left, exists_eq_left', Option.some.injEq, fs, hl]
  refine ⟨⟨_, rfl⟩, ?_⟩
  repeat refine ⟨by first | omega | decide | (rw [sizeLine_eq]; omega), ?_⟩
  refine hN _ ?_ fun d hd => ?_
  · rw [List.length_append, hl]; rfl
  · rcases List.mem_append.mp hd with z | z
    · exact hx d z
    · exact all_cons (isS_of (w := 3) (by decide +kernel) rfl (turn10 h2 h6)) (all_cons (isS_of (w := 1) (by decide +kernel) rfl (turn11 h2 h6)) (all_cons (isS_of (w := 3) (by decide +kernel) rfl (turn12 h2 h6)) (all_one (isS_of (w := 1) (by decide +kernel) rfl (turn13 h2 h6))))) d z
theorem g10 {n : Nat} (h2 : 2 ≤ n) (h6 : n ≤ 6) {b : List Nat} (hb : b ∈ bads) {xs : List PyData} (hl : xs.length = 13) (hx : ∀ d ∈ xs, isS n d) (hN : ∀ xs, 13 ≤ xs.length → xs.length ≤ 14 → (∀ d ∈ xs, isS n d) → P.nx (fs a c h p s4 s5 (.im (eW b)) s7 s8 s9 s10 s11 (.ol xs))) :
    w_law_fault_10 (fs a c h p s4 s5 (.im (eW b)) s7 s8 s9 s10 s11 (.ol xs)) P := by
  have sb : SeqAt.shaped (eW b) = true := shaped_eW (asT_small (bad_ok hb).1.lt)
  have e15 : PyData.str ("1.5" : Str) = eW [49, 46, 53] := lit (by decide +kernel)
  have ex : PyData.str ("x" : Str) = eW [120] := lit (by decide +kernel)
  have sl : SeqAt.shaped (.list [eW [49, 46, 53], eW [120]]) = true := shaped_eR (ws := [[49, 46, 53], [120]]) (all_cons (asT_small (by decide)) (all_one (asT_small (by decide))))
  have bl := (bad_ok hb).2
  have z7 : ("step 1 " : Str).length = 7 := by decide +kernel
  have t1 : tl (("step 1 " : Str) ++ mkS b) = joinL [32] [sW, [49], b] := by
    rw [tl_append, tl_mkS, show tl ("step 1 " : Str) = sW ++ [32, 49, 32] by decide +kernel]
    show sW ++ [32, 49, 32] ++ b = sW ++ ([32] ++ ([49] ++ ([32] ++ b)))
    simp
  simp only [w_law_fault_10, bl?, g2, gAdd, gDiv, gEq, gGe, gGt, gI, gIn, gInt, gIs, gIsNot, gLe, gLen, gList, gLt, gMM, gMod, gMul, gMulS, gNe, gNotIn, gPow, gSorted, gSub, gIadd, gSum, gTuple, puts, sV, sVs, slotM, wAnd, wApp, wAsg, wAug, wAugI, wB, wC, wCall, wCallR, wChain, wCons, wDraw, wDrop, wEnL, wEnT, wExt, wFn, wFnO, wFor, wGCons, wGNil, wGT, wIL, wIT, wIdx, wIf, wIfS, wIsi, wIx, wLc, wLst, wMNil, wMO, wMV, wMix, wN, wNeg, wNil, wNot, wNotT, wO, wOp, wOr, wOwn, wPar, wR1, wR2, wRaise, wRaiseF, wRet, wSeq, wSet, wSetI, wSkip, wTAnd, wTNot, wTOr, wTru, wTry, wTryF, wTup, wV, wYes, wSplit, wJoin, wRstrip, wFmt, wJNil, wJCons, wJs, gStr, gIntS, wIS, gSignNotIn, wSl, wSlt, wPn, wPs, gMulT, wGL, wTryAs, wXf, wXis, wCat, wCatV, wIxV, startS, List.length_cons, List.length_nil, List.map_cons, List.map_nil, List.getElem?_cons_zero, List.getElem?_cons_succ, List.set_cons_zero, List.set_cons_succ, List.cons_append, List.nil_append, List.append_nil, List.replicate_succ, List.replicate_zero, Nat.reduceAdd, Nat.reduceSub, ↓reduceIte, Bool.false_eq_true, reduceCtorEq, true_and, and_true, true_or, or_true, false_or, or_false, Bool.not_true, Bool.not_false, Bool.true_and, Bool.false_and, Bool.and_true, decide_eq_true_eq, Bool.not_eq_eq_eq_not, exists_eq_left, exists_eq_left', Option.some.injEq, fs, e15, ex, sb, sl]
  refine ⟨by decide, ?_⟩
  cases hin : ([eW [49, 46, 53], eW [120]].any fun z => PyData.eqv z (eW b)) with
  | true =>
    simp only [startS, List.length_cons, List.length_nil, List.map_cons, List.map_nil, List.getElem?_cons_zero, List.getElem?_cons_succ, List.set_cons_zero, List.set_cons_succ, List.cons_append, List.nil_append, List.append_nil, List.replicate_succ, List.replicate_zero, Nat.reduceAdd, Nat.reduceSub, ↓reduceIte, Bool.false_eq_true, reduceCtorEq, true_and, and_true, true_or, or_true, false_or, or_false, Bool.not_true, Bool.not_false, Bool.true_and, Bool.false_and, Bool.and_true, decide_eq_true_eq, Bool.not_eq_eq_eq_not, exists_eq_left, exists_eq_left', Option.some.injEq, bl?, g2, gAdd, gDiv, gEq, gGe, gGt, gI, gIn, gInt, gIs, gIsNot, gLe, gLen, gList, gLt, gMM, gMod, gMul, gMulS, gNe, gNotIn, gPow, gSorted, gSub, gIadd, gSum, gTuple, puts, sV, sVs, slotM, wAnd, wApp, wAsg, wAug, wAugI, wB, wC, wCall, wCallR, wChain, wCons, wDraw, wDrop, wEnL, wEnT, wExt, wFn, wFnO, wFor, wGCons, wGNil, wGT, wIL, wIT, wIdx, wIf, wIfS, wIsi, wIx, wLc, wLst, wMNil, wMO, wMV, wMix, wN, wNeg, wNil, wNot, wNotT, wO, wOp, wOr, wOwn, wPar, wR1, wR2, wRaise, wRaiseF, wRet, wSeq, wSet, wSetI, wSkip, wTAnd, wTNot, wTOr, wTru, wTry, wTryF, wTup, wV, wYes, wSplit, wJoin, wRstrip, wFmt, wJNil, wJCons, wJs, gStr, gIntS, wIS, gSignNotIn, wSl, wSlt, wPn, wPs, gMulT, wGL, wTryAs, wXf, wXis, wCat, wCatV, wIxV, eW, len_mkS, z7]
    refine ⟨⟨_, rfl⟩, ?_⟩
    repeat refine ⟨by first | omega | decide | (rw [sizeLine_eq]; omega), ?_⟩
    refine hN _ (by rw [List.length_append, hl]; simp) (by rw [List.length_append, hl]; simp) fun d hd => ?_
    rcases List.mem_append.mp hd with z | z
    · exact hx d z
    · exact all_one (isS_of (w := 3) t1 rfl (turn14 h2 h6 hb)) d z
  | false =>
    simp only [startS, List.length_cons, List.length_nil, List.map_cons, List.map_nil, List.getElem?_cons_zero, List.getElem?_cons_succ, List.set_cons_zero, List.set_cons_succ, List.cons_append, List.nil_append, List.append_nil, List.replicate_succ, List.replicate_zero, Nat.reduceAdd, Nat.reduceSub, ↓reduceIte, Bool.false_eq_true, reduceCtorEq, true_and, and_true, true_or, or_true, false_or, or_false, Bool.not_true, Bool.not_false, Bool.true_and, Bool.false_and, Bool.and_true, decide_eq_true_eq, Bool.not_eq_eq_eq_not, exists_eq_left, exists_eq_left', Option.some.injEq, bl?, g2, gAdd, gDiv, gEq, gGe, gGt, gI, gIn, gInt, gIs, gIsNot, gLe, gLen, gList, gLt, gMM, gMod, gMul, gMulS, gNe, gNotIn, gPow, gSorted, gSub, gIadd, gSum, gTuple, puts, sV, sVs, slotM, wAnd, wApp, wAsg, wAug, wAugI, wB, wC, wCall, wCallR, wChain, wCons, wDraw, wDrop, wEnL, wEnT, wExt, wFn, wFnO, wFor, wGCons, wGNil, wGT, wIL, wIT, wIdx, wIf, wIfS, wIsi, wIx, wLc, wLst, wMNil, wMO, wMV, wMix, wN, wNeg, wNil, wNot, wNotT, wO, wOp, wOr, wOwn, wPar, wR1, wR2, wRaise, wRaiseF, wRet, wSeq, wSet, wSetI, wSkip, wTAnd, wTNot, wTOr, wTru, wTry, wTryF, wTup, wV, wYes, wSplit, wJoin, wRstrip, wFmt, wJNil, wJCons, wJs, gStr, gIntS, wIS, gSignNotIn, wSl, wSlt, wPn, wPs, gMulT, wGL, wTryAs, wXf, wXis, wCat, wCatV, wIxV]
    exact hN _ (by omega) (by omega) hx
end
theorem pure_law_fault : PureR 12 3 sp_law_fault w_law_fault := by
  rintro ds A B a c - ⟨h, p, rfl, oh, op, hp, hA⟩
  have e31 : (10 : Int) ^ 31 = 10000000000000000000000000000000 := by decide
  have l2 := oh.l2
  have l6 := oh.l6
  have hln : (linesOf h p).length = p.length + 1 := by simp [linesOf]
  show w_law_fault (fs a c h p .un .un .un .un .un .un .un .un .un) _
  unfold w_law_fault
  refine seq_cut (fun S => ∃ kind : Int, 0 ≤ kind ∧ kind < 4 ∧ S = fs a c h p (.im (.int kind)) .un .un .un .un .un .un .un .un) (fun Nx hN => ?_) ?_
  · simp only [w_law_fault_1, bl?, g2, gAdd, gDiv, gEq, gGe, gGt, gI, gIn, gInt, gIs, gIsNot, gLe, gLen, gList, gLt, gMM, gMod, gMul, gMulS, gNe, gNotIn, gPow, gSorted, gSub, gIadd, gSum, gTuple, puts, sV, sVs, slotM, wAnd, wApp, wAsg, wAug, wAugI, wB, wC, wCall, wCallR, wChain, wCons, wDraw, wDrop, wEnL, wEnT, wExt, wFn, wFnO, wFor, wGCons, wGNil, wGT, wIL, wIT, wIdx, wIf, wIfS, wIsi, wIx, wLc, wLst, wMNil, wMO, wMV, wMix, wN, wNeg, wNil, wNot, wNotT, wO, wOp, wOr, wOwn, wPar, wR1, wR2, wRaise, wRaiseF, wRet, wSeq, wSet, wSetI, wSkip, wTAnd, wTNot, wTOr, wTru, wTry, wTryF, wTup, wV, wYes, wSplit, wJoin, wRstrip, wFmt, wJNil, wJCons, wJs, gStr, gIntS, wIS, gSignNotIn, wSl, wSlt, wPn, wPs, gMulT, wGL, wTryAs, wXf, wXis, wCat, wCatV, wIxV, startS, List.length_cons, List.length_nil, List.map_cons, List.map_nil, List.getElem?_cons_zero, List.getElem?_cons_succ, List.set_cons_zero, List.set_cons_succ, List.cons_append, List.nil_append, List.append_nil, List.replicate_succ, List.replicate_zero, Nat.reduceAdd, Nat.reduceSub, ↓reduceIte, Bool.false_eq_true, reduceCtorEq, true_and, and_true, true_or, or_true, false_or, or_false, Bool.not_true, Bool.not_false, Bool.true_and, Bool.false_and, Bool.and_true, decide_eq_true_eq, Bool.not_eq_eq_eq_not, exists_eq_left, exists_eq_left', Option.some.injEq, fs]
    exact ⟨a, c, rfl, rfl, by decide, by rw [e31]; decide, fun r r0 r1 => hN _ ⟨r, r0, r1, rfl⟩⟩
  rintro S ⟨kind, k0, k4, rfl⟩
  refine seq_cut (fun S => S = fs a c h p (.im (.int kind)) (.im (.int h.length)) .un .un .un .un .un .un .un) (fun Nx hN => ?_) ?_
  · simp only [w_law_fault_2, bl?, g2, gAdd, gDiv, gEq, gGe, gGt, gI, gIn, gInt, gIs, gIsNot, gLe, gLen, gList, gLt, gMM, gMod, gMul, gMulS, gNe, gNotIn, gPow, gSorted, gSub, gIadd, gSum, gTuple, puts, sV, sVs, slotM, wAnd, wApp, wAsg, wAug, wAugI, wB, wC, wCall, wCallR, wChain, wCons, wDraw, wDrop, wEnL, wEnT, wExt, wFn, wFnO, wFor, wGCons, wGNil, wGT, wIL, wIT, wIdx, wIf, wIfS, wIsi, wIx, wLc, wLst, wMNil, wMO, wMV, wMix, wN, wNeg, wNil, wNot, wNotT, wO, wOp, wOr, wOwn, wPar, wR1, wR2, wRaise, wRaiseF, wRet, wSeq, wSet, wSetI, wSkip, wTAnd, wTNot, wTOr, wTru, wTry, wTryF, wTup, wV, wYes, wSplit, wJoin, wRstrip, wFmt, wJNil, wJCons, wJs, gStr, gIntS, wIS, gSignNotIn, wSl, wSlt, wPn, wPs, gMulT, wGL, wTryAs, wXf, wXis, wCat, wCatV, wIxV, startS, List.length_cons, List.length_nil, List.map_cons, List.map_nil, List.getElem?_cons_zero, List.getElem?_cons_succ, List.set_cons_zero, List.set_cons_succ, List.cons_append, List.nil_append, List.append_nil, List.replicate_succ, List.replicate_zero, Nat.reduceAdd, Nat.reduceSub, ↓reduceIte, Bool.false_eq_true, reduceCtorEq, true_and, and_true, true_or, or_true, false_or, or_false, Bool.not_true, Bool.not_false, Bool.true_and, Bool.false_and, Bool.and_true, decide_eq_true_eq, Bool.not_eq_eq_eq_not, exists_eq_left, exists_eq_left', Option.some.injEq, fs, eH, List.length_map]
    exact hN _ rfl
  rintro S rfl
  refine seq_cut (fun S => ∃ b ∈ bads, S = fs a c h p (.im (.int kind)) (.im (.int h.length)) (.im (eW b)) .un .un .un .un .un .un) (fun Nx hN => ?_) ?_
  · simp only [w_law_fault_3, bl?, g2, gAdd, gDiv, gEq, gGe, gGt, gI, gIn, gInt, gIs, gIsNot, gLe, gLen, gList, gLt, gMM, gMod, gMul, gMulS, gNe, gNotIn, gPow, gSorted, gSub, gIadd, gSum, gTuple, puts, sV, sVs, slotM, wAnd, wApp, wAsg, wAug, wAugI, wB, wC, wCall, wCallR, wChain, wCons, wDraw, wDrop, wEnL, wEnT, wExt, wFn, wFnO, wFor, wGCons, wGNil, wGT, wIL, wIT, wIdx, wIf, wIfS, wIsi, wIx, wLc, wLst, wMNil, wMO, wMV, wMix, wN, wNeg, wNil, wNot, wNotT, wO, wOp, wOr, wOwn, wPar, wR1, wR2, wRaise, wRaiseF, wRet, wSeq, wSet, wSetI, wSkip, wTAnd, wTNot, wTOr, wTru, wTry, wTryF, wTup, wV, wYes, wSplit, wJoin, wRstrip, wFmt, wJNil, wJCons, wJs, gStr, gIntS, wIS, gSignNotIn, wSl, wSlt, wPn, wPs, gMulT, wGL, wTryAs, wXf, wXis, wCat, wCatV, wIxV, startS, List.length_cons, List.length_nil, List.map_cons, List.map_nil, List.getElem?_cons_zero, List.getElem?_cons_succ, List.set_cons_zero, List.set_cons_succ, List.cons_append, List.nil_append, List.append_nil, List.replicate_succ, List.replicate_zero, Nat.reduceAdd, Nat.reduceSub, ↓reduceIte, Bool.false_eq_true, reduceCtorEq, true_and, and_true, true_or, or_true, false_or, or_false, Bool.not_true, Bool.not_false, Bool.true_and, Bool.false_and, Bool.and_true, decide_eq_true_eq, Bool.not_eq_eq_eq_not, exists_eq_left, exists_eq_left', Option.some.injEq, fs]
    have hlog : ((10 : Int) ^ Int.toNat 30 + 1).natAbs.log2 < 1920 := by
      have e : ((10 : Int) ^ Int.toNat 30 + 1) = 1000000000000000000000000000001 := by decide
      rw [e, show (1000000000000000000000000000001 : Int).natAbs = 1000000000000000000000000000001 from rfl, Nat.log2_lt (by decide)]
      decide
    refine ⟨⟨by decide, by decide, by decide⟩, hlog, by decide, a, c, rfl, rfl, by decide, by rw [e31]; decide, fun r r0 r1 => ?_⟩
    obtain ⟨d, hd, b, hb, rfl⟩ := bad_of r0 r1
    exact ⟨_, hd, hN _ ⟨b, hb, rfl⟩⟩
  rintro S ⟨b, hb, rfl⟩
  refine seq_cut (fun S => kind ≠ 0 ∧ S = fs a c h p (.im (.int kind)) (.im (.int h.length)) (.im (eW b)) .un .un .un .un .un .un) (fun Nx hN => ?_) ?_
  · simp only [w_law_fault_4, bl?, g2, gAdd, gDiv, gEq, gGe, gGt, gI, gIn, gInt, gIs, gIsNot, gLe, gLen, gList, gLt, gMM, gMod, gMul, gMulS, gNe, gNotIn, gPow, gSorted, gSub, gIadd, gSum, gTuple, puts, sV, sVs, slotM, wAnd, wApp, wAsg, wAug, wAugI, wB, wC, wCall, wCallR, wChain, wCons, wDraw, wDrop, wEnL, wEnT, wExt, wFn, wFnO, wFor, wGCons, wGNil, wGT, wIL, wIT, wIdx, wIf, wIfS, wIsi, wIx, wLc, wLst, wMNil, wMO, wMV, wMix, wN, wNeg, wNil, wNot, wNotT, wO, wOp, wOr, wOwn, wPar, wR1, wR2, wRaise, wRaiseF, wRet, wSeq, wSet, wSetI, wSkip, wTAnd, wTNot, wTOr, wTru, wTry, wTryF, wTup, wV, wYes, wSplit, wJoin, wRstrip, wFmt, wJNil, wJCons, wJs, gStr, gIntS, wIS, gSignNotIn, wSl, wSlt, wPn, wPs, gMulT, wGL, wTryAs, wXf, wXis, wCat, wCatV, wIxV, startS, List.length_cons, List.length_nil, List.map_cons, List.map_nil, List.getElem?_cons_zero, List.getElem?_cons_succ, List.set_cons_zero, List.set_cons_succ, List.cons_append, List.nil_append, List.append_nil, List.replicate_succ, List.replicate_zero, Nat.reduceAdd, Nat.reduceSub, ↓reduceIte, Bool.false_eq_true, reduceCtorEq, true_and, and_true, true_or, or_true, false_or, or_false, Bool.not_true, Bool.not_false, Bool.true_and, Bool.false_and, Bool.and_true, decide_eq_true_eq, Bool.not_eq_eq_eq_not, exists_eq_left, exists_eq_left', Option.some.injEq, fs, shaped_int, eqv_int]
    by_cases ck : kind = 0
    · simp only [ck, decide_true, startS, List.length_cons, List.length_nil, List.map_cons, List.map_nil, List.getElem?_cons_zero, List.getElem?_cons_succ, List.set_cons_zero, List.set_cons_succ, List.cons_append, List.nil_append, List.append_nil, List.replicate_succ, List.replicate_zero, Nat.reduceAdd, Nat.reduceSub, ↓reduceIte, Bool.false_eq_true, reduceCtorEq, true_and, and_true, true_or, or_true, false_or, or_false, Bool.not_true, Bool.not_false, Bool.true_and, Bool.false_and, Bool.and_true, decide_eq_true_eq, Bool.not_eq_eq_eq_not, exists_eq_left, exists_eq_left', Option.some.injEq]
      subst ck
      have hg : ∃ x l, h = x :: l := by
        cases h with
        | nil => simp at l2
        | cons x l => exact ⟨x, l, rfl⟩
      have h0 : (h.map fun i => numL i.toNat)[0]? = some (numL (gt h 0).toNat) := by
        obtain ⟨x, l, e⟩ := hg
        rw [e]
        rfl
      have b1 := head1 oh
      have b3 := head3 oh
      have nb : ∀ w ∈ h.map (fun i => numL i.toNat), w.length ≤ 31 := fun w hw => (nums_ok oh w hw).2
      have hnl : (h.map fun i => numL i.toNat).length = h.length := List.length_map _
      obtain ⟨ns, hns⟩ : ∃ ns, ns = h.map fun i => numL i.toNat := ⟨_, rfl⟩
      rw [← hns] at h0 b1 nb hnl
      refine seq_cut (fun S => ∃ s : Nat, s < h.length ∧ S = fs a c h p (.im (.int 0)) (.im (.int h.length)) (.im (eW b)) (.im (.int (s : Nat))) .un .un .un .un .un) (fun Nx hN => ?_) ?_
      · simp only [w_law_fault_4_1, bl?, g2, gAdd, gDiv, gEq, gGe, gGt, gI, gIn, gInt, gIs, gIsNot, gLe, gLen, gList, gLt, gMM, gMod, gMul, gMulS, gNe, gNotIn, gPow, gSorted, gSub, gIadd, gSum, gTuple, puts, sV, sVs, slotM, wAnd, wApp, wAsg, wAug, wAugI, wB, wC, wCall, wCallR, wChain, wCons, wDraw, wDrop, wEnL, wEnT, wExt, wFn, wFnO, wFor, wGCons, wGNil, wGT, wIL, wIT, wIdx, wIf, wIfS, wIsi, wIx, wLc, wLst, wMNil, wMO, wMV, wMix, wN, wNeg, wNil, wNot, wNotT, wO, wOp, wOr, wOwn, wPar, wR1, wR2, wRaise, wRaiseF, wRet, wSeq, wSet, wSetI, wSkip, wTAnd, wTNot, wTOr, wTru, wTry, wTryF, wTup, wV, wYes, wSplit, wJoin, wRstrip, wFmt, wJNil, wJCons, wJs, gStr, gIntS, wIS, gSignNotIn, wSl, wSlt, wPn, wPs, gMulT, wGL, wTryAs, wXf, wXis, wCat, wCatV, wIxV, startS, List.length_cons, List.length_nil, List.map_cons, List.map_nil, List.getElem?_cons_zero, List.getElem?_cons_succ, List.set_cons_zero, List.set_cons_succ, List.cons_append, List.nil_append, List.append_nil, List.replicate_succ, List.replicate_zero, Nat.reduceAdd, Nat.reduceSub, ↓reduceIte, Bool.false_eq_true, reduceCtorEq, true_and, and_true, true_or, or_true, false_or, or_false, Bool.not_true, Bool.not_false, Bool.true_and, Bool.false_and, Bool.and_true, decide_eq_true_eq, Bool.not_eq_eq_eq_not, exists_eq_left, exists_eq_left', Option.some.injEq, fs]
        refine ⟨a, c, rfl, rfl, by omega, by rw [e31]; omega, fun r r0 r1 => ?_⟩
        obtain ⟨s, rfl⟩ := Int.eq_ofNat_of_zero_le r0
        exact hN _ ⟨s, by omega, rfl⟩
      rintro S ⟨s, hs, rfl⟩
      refine seq_cut (fun S => ∃ s9, S = fs a c h p (.im (.int 0)) (.im (.int h.length)) (.im (eW b)) (.im (.int (s : Nat))) (.im (wordsD ns)) s9 .un .un .un) (fun Nx hN => ?_) ?_
      · simp only [w_law_fault_4_2, bl?, g2, gAdd, gDiv, gEq, gGe, gGt, gI, gIn, gInt, gIs, gIsNot, gLe, gLen, gList, gLt, gMM, gMod, gMul, gMulS, gNe, gNotIn, gPow, gSorted, gSub, gIadd, gSum, gTuple, puts, sV, sVs, slotM, wAnd, wApp, wAsg, wAug, wAugI, wB, wC, wCall, wCallR, wChain, wCons, wDraw, wDrop, wEnL, wEnT, wExt, wFn, wFnO, wFor, wGCons, wGNil, wGT, wIL, wIT, wIdx, wIf, wIfS, wIsi, wIx, wLc, wLst, wMNil, wMO, wMV, wMix, wN, wNeg, wNil, wNot, wNotT, wO, wOp, wOr, wOwn, wPar, wR1, wR2, wRaise, wRaiseF, wRet, wSeq, wSet, wSetI, wSkip, wTAnd, wTNot, wTOr, wTru, wTry, wTryF, wTup, wV, wYes, wSplit, wJoin, wRstrip, wFmt, wJNil, wJCons, wJs, gStr, gIntS, wIS, gSignNotIn, wSl, wSlt, wPn, wPs, gMulT, wGL, wTryAs, wXf, wXis, wCat, wCatV, wIxV, startS, List.length_cons, List.length_nil, List.map_cons, List.map_nil, List.getElem?_cons_zero, List.getElem?_cons_succ, List.set_cons_zero, List.set_cons_succ, List.cons_append, List.nil_append, List.append_nil, List.replicate_succ, List.replicate_zero, Nat.reduceAdd, Nat.reduceSub, ↓reduceIte, Bool.false_eq_true, reduceCtorEq, true_and, and_true, true_or, or_true, false_or, or_false, Bool.not_true, Bool.not_false, Bool.true_and, Bool.false_and, Bool.and_true, decide_eq_true_eq, Bool.not_eq_eq_eq_not, exists_eq_left, exists_eq_left', Option.some.injEq, fs, eH, List.all_cons, List.all_nil, notRng, isMut]
        refine lc_ok PyData.int (fun _ => true) (fun i => eW (numL i.toNat)) h [] True (fun i hi Yes No hy hno => ?_) (by simp; omega) trivial fun c2 hc2 => ?_
        · obtain ⟨i0, i1⟩ := oh.rg i hi
          simp only [bl?, g2, gAdd, gDiv, gEq, gGe, gGt, gI, gIn, gInt, gIs, gIsNot, gLe, gLen, gList, gLt, gMM, gMod, gMul, gMulS, gNe, gNotIn, gPow, gSorted, gSub, gIadd, gSum, gTuple, puts, sV, sVs, slotM, wAnd, wApp, wAsg, wAug, wAugI, wB, wC, wCall, wCallR, wChain, wCons, wDraw, wDrop, wEnL, wEnT, wExt, wFn, wFnO, wFor, wGCons, wGNil, wGT, wIL, wIT, wIdx, wIf, wIfS, wIsi, wIx, wLc, wLst, wMNil, wMO, wMV, wMix, wN, wNeg, wNil, wNot, wNotT, wO, wOp, wOr, wOwn, wPar, wR1, wR2, wRaise, wRaiseF, wRet, wSeq, wSet, wSetI, wSkip, wTAnd, wTNot, wTOr, wTru, wTry, wTryF, wTup, wV, wYes, wSplit, wJoin, wRstrip, wFmt, wJNil, wJCons, wJs, gStr, gIntS, wIS, gSignNotIn, wSl, wSlt, wPn, wPs, gMulT, wGL, wTryAs, wXf, wXis, wCat, wCatV, wIxV, startS, List.length_cons, List.length_nil, List.map_cons, List.map_nil, List.getElem?_cons_zero, List.getElem?_cons_succ, List.set_cons_zero, List.set_cons_succ, List.cons_append, List.nil_append, List.append_nil, List.replicate_succ, List.replicate_zero, Nat.reduceAdd, Nat.reduceSub, ↓reduceIte, Bool.false_eq_true, reduceCtorEq, true_and, and_true, true_or, or_true, false_or, or_false, Bool.not_true, Bool.not_false, Bool.true_and, Bool.false_and, Bool.and_true, decide_eq_true_eq, Bool.not_eq_eq_eq_not, exists_eq_left, exists_eq_left', Option.some.injEq, wipeS, flat, log_small i0 i1]
          rw [strI_int i0]
          exact hy rfl
        · rw [List.nil_append, List.filter_eq_self.mpr (fun _ _ => rfl)]
          refine ⟨.inl hc2, hN _ ⟨.un, ?_⟩⟩
          rw [hns]
          simp only [fs, wordsD, eH, List.map_map]
          rfl
      rintro S ⟨s9, rfl⟩
      refine seq_cut (fun S => ∃ xs, S = fs a c h p (.im (.int 0)) (.im (.int h.length)) (.im (eW b)) (.im (.int (s : Nat))) (.im (wordsD ns)) s9 (.ol xs) .un .un ∧ xs.length = 5 ∧ ∀ d ∈ xs, isH d) (fun Nx hN => f43 (by intro z; rw [z] at hnl; simp at hnl; omega) (by omega) nb h0 b1 b3 fun xs e1 e2 => hN _ ⟨xs, rfl, e1, e2⟩) ?_
      rintro S ⟨xs, rfl, hxl, hx⟩
      refine seq_cut (fun S => ∃ xs, S = fs a c h p (.im (.int 0)) (.im (.int h.length)) (.im (eW b)) (.im (.int (s : Nat))) (.im (wordsD ns)) s9 (.ol xs) .un .un ∧ xs.length = 8 ∧ ∀ d ∈ xs, isH d) (fun Nx hN => f44 oh hxl hx fun xs e1 e2 => hN _ ⟨xs, rfl, e1, e2⟩) ?_
      rintro S ⟨ys, rfl, hyl, hy⟩
      refine seq_cut (fun S => ∃ xs, S = fs a c h p (.im (.int 0)) (.im (.int h.length)) (.im (eW b)) (.im (.int (s : Nat))) (.im (wordsD ns)) s9 (.ol xs) .un .un ∧ xs.length = 9 ∧ ∀ d ∈ xs, isH d) (fun Nx hN => f45 oh hb hs hns hyl hy fun xs e1 e2 => hN _ ⟨xs, rfl, e1, e2⟩) ?_
      rintro S ⟨zs, rfl, hzl, hz⟩
      exact f467 (B := B) (size := 0) oh op hp hA hzl hz (fun d S h1 h2 => ⟨h1, h2⟩) (fun d cc S _ h => h)
    · simp only [ck, decide_false, startS, List.length_cons, List.length_nil, List.map_cons, List.map_nil, List.getElem?_cons_zero, List.getElem?_cons_succ, List.set_cons_zero, List.set_cons_succ, List.cons_append, List.nil_append, List.append_nil, List.replicate_succ, List.replicate_zero, Nat.reduceAdd, Nat.reduceSub, ↓reduceIte, Bool.false_eq_true, reduceCtorEq, true_and, and_true, true_or, or_true, false_or, or_false, Bool.not_true, Bool.not_false, Bool.true_and, Bool.false_and, Bool.and_true, decide_eq_true_eq, Bool.not_eq_eq_eq_not, exists_eq_left, exists_eq_left', Option.some.injEq]
      exact hN _ ⟨ck, rfl⟩
  rintro S ⟨ck, rfl⟩
  refine seq_cut (fun S => ∃ k : Nat, k ≤ p.length ∧ S = fs a c h p (.im (.int kind)) (.im (.int h.length)) (.im (eW b)) (.im (.int ((k + 1 : Nat) : Int))) .un .un .un .un .un) (fun Nx hN => ?_) ?_
  · simp only [w_law_fault_5, bl?, g2, gAdd, gDiv, gEq, gGe, gGt, gI, gIn, gInt, gIs, gIsNot, gLe, gLen, gList, gLt, gMM, gMod, gMul, gMulS, gNe, gNotIn, gPow, gSorted, gSub, gIadd, gSum, gTuple, puts, sV, sVs, slotM, wAnd, wApp, wAsg, wAug, wAugI, wB, wC, wCall, wCallR, wChain, wCons, wDraw, wDrop, wEnL, wEnT, wExt, wFn, wFnO, wFor, wGCons, wGNil, wGT, wIL, wIT, wIdx, wIf, wIfS, wIsi, wIx, wLc, wLst, wMNil, wMO, wMV, wMix, wN, wNeg, wNil, wNot, wNotT, wO, wOp, wOr, wOwn, wPar, wR1, wR2, wRaise, wRaiseF, wRet, wSeq, wSet, wSetI, wSkip, wTAnd, wTNot, wTOr, wTru, wTry, wTryF, wTup, wV, wYes, wSplit, wJoin, wRstrip, wFmt, wJNil, wJCons, wJs, gStr, gIntS, wIS, gSignNotIn, wSl, wSlt, wPn, wPs, gMulT, wGL, wTryAs, wXf, wXis, wCat, wCatV, wIxV, startS, List.length_cons, List.length_nil, List.map_cons, List.map_nil, List.getElem?_cons_zero, List.getElem?_cons_succ, List.set_cons_zero, List.set_cons_succ, List.cons_append, List.nil_append, List.append_nil, List.replicate_succ, List.replicate_zero, Nat.reduceAdd, Nat.reduceSub, ↓reduceIte, Bool.false_eq_true, reduceCtorEq, true_and, and_true, true_or, or_true, false_or, or_false, Bool.not_true, Bool.not_false, Bool.true_and, Bool.false_and, Bool.and_true, decide_eq_true_eq, Bool.not_eq_eq_eq_not, exists_eq_left, exists_eq_left', Option.some.injEq, fs, List.length_map, hln]
    refine ⟨a, c, rfl, rfl, by omega, by rw [e31]; omega, fun r r0 r1 => ?_⟩
    obtain ⟨k, rfl⟩ := Int.eq_ofNat_of_zero_le r0
    refine hN _ ⟨k, by omega, ?_⟩
    rw [show (1 : Int) + (k : Int) = ((k + 1 : Nat) : Int) by omega]
  rintro S ⟨k, hk, rfl⟩
  have c1 : cutL ((linesOf h p).map eW) none (some ((k + 1 : Nat) : Int)) = ((linesOf h p).take (k + 1)).map eW := by rw [cut_take, List.map_take]
  have c2 : cutL ((linesOf h p).map eW) (some ((k + 1 : Nat) : Int)) none = ((linesOf h p).drop (k + 1)).map eW := by rw [cut_drop, List.map_drop]
  have f1 : flats (((linesOf h p).take (k + 1)).map eW) = true := flats_eW _
  have f2 : flats (((linesOf h p).drop (k + 1)).map eW) = true := flats_eW _
  have q1 : ((linesOf h p).take (k + 1)).length ≤ 8 := by rw [List.length_take]; omega
  have q2 : ((linesOf h p).drop (k + 1)).length ≤ 8 := by rw [List.length_drop]; omega
  have sL := sizeLine_eq
  have ek : ((k + 1 : Nat) : Int) + 1 = ((k + 2 : Nat) : Int) := by omega
  refine seq_cut (fun S => S = fs a c h p (.im (.int kind)) (.im (.int h.length)) (.im (eW b)) (.im (.int ((k + 1 : Nat) : Int))) .un .un .un .un .un) (fun Nx hN => ?_) ?_
  · simp only [w_law_fault_6, bl?, g2, gAdd, gDiv, gEq, gGe, gGt, gI, gIn, gInt, gIs, gIsNot, gLe, gLen, gList, gLt, gMM, gMod, gMul, gMulS, gNe, gNotIn, gPow, gSorted, gSub, gIadd, gSum, gTuple, puts, sV, sVs, slotM, wAnd, wApp, wAsg, wAug, wAugI, wB, wC, wCall, wCallR, wChain, wCons, wDraw, wDrop, wEnL, wEnT, wExt, wFn, wFnO, wFor, wGCons, wGNil, wGT, wIL, wIT, wIdx, wIf, wIfS, wIsi, wIx, wLc, wLst, wMNil, wMO, wMV, wMix, wN, wNeg, wNil, wNot, wNotT, wO, wOp, wOr, wOwn, wPar, wR1, wR2, wRaise, wRaiseF, wRet, wSeq, wSet, wSetI, wSkip, wTAnd, wTNot, wTOr, wTru, wTry, wTryF, wTup, wV, wYes, wSplit, wJoin, wRstrip, wFmt, wJNil, wJCons, wJs, gStr, gIntS, wIS, gSignNotIn, wSl, wSlt, wPn, wPs, gMulT, wGL, wTryAs, wXf, wXis, wCat, wCatV, wIxV, startS, List.length_cons, List.length_nil, List.map_cons, List.map_nil, List.getElem?_cons_zero, List.getElem?_cons_succ, List.set_cons_zero, List.set_cons_succ, List.cons_append, List.nil_append, List.append_nil, List.replicate_succ, List.replicate_zero, Nat.reduceAdd, Nat.reduceSub, ↓reduceIte, Bool.false_eq_true, reduceCtorEq, true_and, and_true, true_or, or_true, false_or, or_false, Bool.not_true, Bool.not_false, Bool.true_and, Bool.false_and, Bool.and_true, decide_eq_true_eq, Bool.not_eq_eq_eq_not, exists_eq_left, exists_eq_left', Option.some.injEq, fs, shaped_int, eqv_int]
    by_cases c1k : kind = 1
    · simp only [c1k, decide_true, startS, List.length_cons, List.length_nil, List.map_cons, List.map_nil, List.getElem?_cons_zero, List.getElem?_cons_succ, List.set_cons_zero, List.set_cons_succ, List.cons_append, List.nil_append, List.append_nil, List.replicate_succ, List.replicate_zero, Nat.reduceAdd, Nat.reduceSub, ↓reduceIte, Bool.false_eq_true, reduceCtorEq, true_and, and_true, true_or, or_true, false_or, or_false, Bool.not_true, Bool.not_false, Bool.true_and, Bool.false_and, Bool.and_true, decide_eq_true_eq, Bool.not_eq_eq_eq_not, exists_eq_left, exists_eq_left', Option.some.injEq, bl?, g2, gAdd, gDiv, gEq, gGe, gGt, gI, gIn, gInt, gIs, gIsNot, gLe, gLen, gList, gLt, gMM, gMod, gMul, gMulS, gNe, gNotIn, gPow, gSorted, gSub, gIadd, gSum, gTuple, puts, sV, sVs, slotM, wAnd, wApp, wAsg, wAug, wAugI, wB, wC, wCall, wCallR, wChain, wCons, wDraw, wDrop, wEnL, wEnT, wExt, wFn, wFnO, wFor, wGCons, wGNil, wGT, wIL, wIT, wIdx, wIf, wIfS, wIsi, wIx, wLc, wLst, wMNil, wMO, wMV, wMix, wN, wNeg, wNil, wNot, wNotT, wO, wOp, wOr, wOwn, wPar, wR1, wR2, wRaise, wRaiseF, wRet, wSeq, wSet, wSetI, wSkip, wTAnd, wTNot, wTOr, wTru, wTry, wTryF, wTup, wV, wYes, wSplit, wJoin, wRstrip, wFmt, wJNil, wJCons, wJs, gStr, gIntS, wIS, gSignNotIn, wSl, wSlt, wPn, wPs, gMulT, wGL, wTryAs, wXf, wXis, wCat, wCatV, wIxV, c1, c2, f1, f2, List.length_map, List.length_append]
      refine ⟨by decide, a, c, rfl, rfl, by decide, by rw [e31]; decide, fun r r0 r1 => ?_⟩
      have e1 : PyData.str ("" : Str) = eW (List.replicate 0 32) := lit (by decide +kernel)
      have e3 : PyData.str ("   " : Str) = eW (List.replicate 3 32) := lit (by decide +kernel)
      refine pick (n := 2) rfl r0 r1 (fun d => ∃ m, m ≤ 3 ∧ d = eW (List.replicate m 32)) (all_cons ⟨0, by decide, e1⟩ (all_one ⟨3, by decide, e3⟩)) fun d hd => ?_
      obtain ⟨m, hm, rfl⟩ := hd
      repeat refine ⟨by first | omega | decide | (rw [sizeLine_eq]; simp; omega), ?_⟩
      rw [ek]
      have := put_row (size := 0) oh op hp hA hk (turn_empty l2 l6 m hm)
      simpa using this
    · simp only [c1k, decide_false, startS, List.length_cons, List.length_nil, List.map_cons, List.map_nil, List.getElem?_cons_zero, List.getElem?_cons_succ, List.set_cons_zero, List.set_cons_succ, List.cons_append, List.nil_append, List.append_nil, List.replicate_succ, List.replicate_zero, Nat.reduceAdd, Nat.reduceSub, ↓reduceIte, Bool.false_eq_true, reduceCtorEq, true_and, and_true, true_or, or_true, false_or, or_false, Bool.not_true, Bool.not_false, Bool.true_and, Bool.false_and, Bool.and_true, decide_eq_true_eq, Bool.not_eq_eq_eq_not, exists_eq_left, exists_eq_left', Option.some.injEq]
      exact hN _ rfl
  rintro S rfl
  refine seq_cut (fun S => ∃ xs, S = fs a c h p (.im (.int kind)) (.im (.int h.length)) (.im (eW b)) (.im (.int ((k + 1 : Nat) : Int))) .un .un .un .un (.ol xs) ∧ xs.length = 6 ∧ ∀ d ∈ xs, isS h.length d) (fun Nx hN => g7 l2 l6 fun xs e1 e2 => hN _ ⟨xs, rfl, e1, e2⟩) ?_
  rintro S ⟨xs, rfl, hxl, hx⟩
  refine seq_cut (fun S => ∃ xs, S = fs a c h p (.im (.int kind)) (.im (.int h.length)) (.im (eW b)) (.im (.int ((k + 1 : Nat) : Int))) .un .un .un .un (.ol xs) ∧ xs.length = 9 ∧ ∀ d ∈ xs, isS h.length d) (fun Nx hN => g8 l2 l6 hb hxl hx fun xs e1 e2 => hN _ ⟨xs, rfl, e1, e2⟩) ?_
  rintro S ⟨ys, rfl, hyl, hy⟩
  refine seq_cut (fun S => ∃ xs, S = fs a c h p (.im (.int kind)) (.im (.int h.length)) (.im (eW b)) (.im (.int ((k + 1 : Nat) : Int))) .un .un .un .un (.ol xs) ∧ xs.length = 13 ∧ ∀ d ∈ xs, isS h.length d) (fun Nx hN => g9 l2 l6 hyl hy fun xs e1 e2 => hN _ ⟨xs, rfl, e1, e2⟩) ?_
  rintro S ⟨zs, rfl, hzl, hz⟩
  refine seq_cut (fun S => ∃ xs, S = fs a c h p (.im (.int kind)) (.im (.int h.length)) (.im (eW b)) (.im (.int ((k + 1 : Nat) : Int))) .un .un .un .un (.ol xs) ∧ 13 ≤ xs.length ∧ xs.length ≤ 14 ∧ ∀ d ∈ xs, isS h.length d) (fun Nx hN => g10 l2 l6 hb hzl hz fun xs e1 e2 e3 => hN _ ⟨xs, rfl, e1, e2, e3⟩) ?_
  rintro S ⟨vs, rfl, hv1, hv2, hv⟩
  refine seq_cut (fun S => ∃ l w, BadS h.length l w ∧ S = fs a c h p (.im (.int kind)) (.im (.int h.length)) (.im (eW b)) (.im (.int ((k + 1 : Nat) : Int))) .un .un .un (.im (eF l w)) (.ol vs)) (fun Nx hN => ?_) ?_
  · simp only [w_law_fault_11, bl?, g2, gAdd, gDiv, gEq, gGe, gGt, gI, gIn, gInt, gIs, gIsNot, gLe, gLen, gList, gLt, gMM, gMod, gMul, gMulS, gNe, gNotIn, gPow, gSorted, gSub, gIadd, gSum, gTuple, puts, sV, sVs, slotM, wAnd, wApp, wAsg, wAug, wAugI, wB, wC, wCall, wCallR, wChain, wCons, wDraw, wDrop, wEnL, wEnT, wExt, wFn, wFnO, wFor, wGCons, wGNil, wGT, wIL, wIT, wIdx, wIf, wIfS, wIsi, wIx, wLc, wLst, wMNil, wMO, wMV, wMix, wN, wNeg, wNil, wNot, wNotT, wO, wOp, wOr, wOwn, wPar, wR1, wR2, wRaise, wRaiseF, wRet, wSeq, wSet, wSetI, wSkip, wTAnd, wTNot, wTOr, wTru, wTry, wTryF, wTup, wV, wYes, wSplit, wJoin, wRstrip, wFmt, wJNil, wJCons, wJs, gStr, gIntS, wIS, gSignNotIn, wSl, wSlt, wPn, wPs, gMulT, wGL, wTryAs, wXf, wXis, wCat, wCatV, wIxV, startS, List.length_cons, List.length_nil, List.map_cons, List.map_nil, List.getElem?_cons_zero, List.getElem?_cons_succ, List.set_cons_zero, List.set_cons_succ, List.cons_append, List.nil_append, List.append_nil, List.replicate_succ, List.replicate_zero, Nat.reduceAdd, Nat.reduceSub, ↓reduceIte, Bool.false_eq_true, reduceCtorEq, true_and, and_true, true_or, or_true, false_or, or_false, Bool.not_true, Bool.not_false, Bool.true_and, Bool.false_and, Bool.and_true, decide_eq_true_eq, Bool.not_eq_eq_eq_not, exists_eq_left, exists_eq_left', Option.some.injEq, fs]
    refine ⟨⟨_, rfl⟩, a, c, rfl, rfl, by omega, by rw [e31]; omega, fun r r0 r1 => ?_⟩
    exact pick rfl r0 r1 (isS h.length) hv fun d hd => by
      obtain ⟨l, w, rfl, b⟩ := hd
      exact hN _ ⟨l, w, b, rfl⟩
  rintro S ⟨l, w, bs, rfl⟩
  have g0 : atD [eW l, PyData.int (w : Int)] 0 = some (eW l) := rfl
  have g1 : atD [eW l, PyData.int (w : Int)] 1 = some (.int (w : Int)) := rfl
  simp only [w_law_fault_12, bl?, g2, gAdd, gDiv, gEq, gGe, gGt, gI, gIn, gInt, gIs, gIsNot, gLe, gLen, gList, gLt, gMM, gMod, gMul, gMulS, gNe, gNotIn, gPow, gSorted, gSub, gIadd, gSum, gTuple, puts, sV, sVs, slotM, wAnd, wApp, wAsg, wAug, wAugI, wB, wC, wCall, wCallR, wChain, wCons, wDraw, wDrop, wEnL, wEnT, wExt, wFn, wFnO, wFor, wGCons, wGNil, wGT, wIL, wIT, wIdx, wIf, wIfS, wIsi, wIx, wLc, wLst, wMNil, wMO, wMV, wMix, wN, wNeg, wNil, wNot, wNotT, wO, wOp, wOr, wOwn, wPar, wR1, wR2, wRaise, wRaiseF, wRet, wSeq, wSet, wSetI, wSkip, wTAnd, wTNot, wTOr, wTru, wTry, wTryF, wTup, wV, wYes, wSplit, wJoin, wRstrip, wFmt, wJNil, wJCons, wJs, gStr, gIntS, wIS, gSignNotIn, wSl, wSlt, wPn, wPs, gMulT, wGL, wTryAs, wXf, wXis, wCat, wCatV, wIxV, startS, List.length_cons, List.length_nil, List.map_cons, List.map_nil, List.getElem?_cons_zero, List.getElem?_cons_succ, List.set_cons_zero, List.set_cons_succ, List.cons_append, List.nil_append, List.append_nil, List.replicate_succ, List.replicate_zero, Nat.reduceAdd, Nat.reduceSub, ↓reduceIte, Bool.false_eq_true, reduceCtorEq, true_and, and_true, true_or, or_true, false_or, or_false, Bool.not_true, Bool.not_false, Bool.true_and, Bool.false_and, Bool.and_true, decide_eq_true_eq, Bool.not_eq_eq_eq_not, exists_eq_left, exists_eq_left', Option.some.injEq, fs, eF, g0, g1, c1, c2, f1, f2, List.length_map, List.length_append]
  repeat refine ⟨by first | omega | decide | (rw [sizeLine_eq]; simp; omega), ?_⟩
  rw [ek]
  have := put_row (size := 0) oh op hp hA hk bs
  simpa using this
def w_law_1 : WS :=
    (wSet 2 (wCallR 1 sp_law_heaps (wCons (wC (.int 2)) (wCons (wC (.int 6)) wNil))))
def w_law_2 : WS :=
    (wSet 3 (wCall sp_law_pairs (wCons (wFn gLen (wCons (wV 2) wNil)) wNil)))
def w_law_3 : WS :=
    (wSet 4 (wFn gTuple (wCons (wO (wLc (wR1 (wCons (wDraw 1 (wC (.int 8))) wNil)) (wN 5) wYes (wIx (wV 3) (wDraw 1 (wFn gLen (wCons (wV 3) wNil)))) [5])) wNil)))
def w_law_4 : WS :=
    (wSet 6 (wCall sp_write_plan (wCons (wV 2) (wCons (wV 4) wNil))))
def w_law_5 : WS :=
    (wAsg (wCallR 1 sp_law_fault (wCons (wO (wSplit (wV 6) (wC (.str "\n")))) (wCons (wV 2) (wCons (wV 4) wNil)))) (wGL 3 (wGCons (wN 7) (wGCons (wN 8) (wGCons (wN 9) wGNil)))))
def w_law_6 : WS :=
    (wSet 10 (wC .none))
def w_law_7 : WS :=
    (wTryAs m_InvalidText 12 (wDrop (wCall sp_read_plan (wCons (wJoin (wC (.str "\n")) (wO (wLc (wIL (wV 7)) (wN 11) wYes (wV 11) [11]))) wNil))) (fun e d y => (wSet 10 (wIf (wB (wXis e d y 12 mIs_HeapError)) (wTup (wCons (wXf e d y 12 "InvalidText" "line") (wCons (wXf e d y 12 "InvalidText" "word") wNil))) (wC .none)))))
def w_law_8 : WS :=
    (wRet (wAnd (wOp gEq (wV 10) (wTup (wCons (wV 8) (wCons (wV 9) wNil)))) (wOp gEq (wCall sp_read_plan (wCons (wV 6) wNil)) (wTup (wCons (wV 2) (wCons (wV 4) wNil))))))
def w_law : WS :=
    (wSeq w_law_1
    (wSeq w_law_2
    (wSeq w_law_3
    (wSeq w_law_4
    (wSeq w_law_5
    (wSeq w_law_6
    (wSeq w_law_7
    w_law_8)))))))
theorem shaped_ii (i j : Int) : SeqAt.shaped (.tuple [.int i, .int j]) = true := shaped_tup2 (by simp [PyData.canLay0]) (by simp [PyData.canLay0]) (by simp [PyData.depth]) (by simp [PyData.depth])
theorem eqv_ii (i j : Int) : PyData.eqv (.tuple [.int i, .int j]) (.tuple [.int i, .int j]) = true := by simp [PyData.eqv, PyData.eqvAll]
abbrev ls0 (a c : Addr) (s2 s3 s4 s5 s6 s7 s8 s9 s10 s11 s12 : Slot) : Slots := [.un, .rng a c, s2, s3, s4, s5, s6, s7, s8, s9, s10, s11, s12]
theorem pure_law : ∀ a c, w_law ((List.replicate 13 Slot.un).set 1 (.rng a c)) ⟨fun _ => False, fun d _ _ => d = .bool true, fun _ => False, fun _ => False, fun _ _ => False⟩ := by
  intro a c
  have e31 : (10 : Int) ^ 31 = 10000000000000000000000000000000 := by decide
  have e62 : (2 : Int) ^ 62 = 4611686018427387904 := by decide
  show w_law (ls0 a c .un .un .un .un .un .un .un .un .un .un .un) _
  unfold w_law
  refine seq_cut (fun S => ∃ h, OkH h ∧ S = ls0 a c (.im (eH h)) .un .un .un .un .un .un .un .un .un .un) (fun Nx hN => ?_) ?_
  · simp only [w_law_1, bl?, g2, gAdd, gDiv, gEq, gGe, gGt, gI, gIn, gInt, gIs, gIsNot, gLe, gLen, gList, gLt, gMM, gMod, gMul, gMulS, gNe, gNotIn, gPow, gSorted, gSub, gIadd, gSum, gTuple, puts, sV, sVs, slotM, wAnd, wApp, wAsg, wAug, wAugI, wB, wC, wCall, wCallR, wChain, wCons, wDraw, wDrop, wEnL, wEnT, wExt, wFn, wFnO, wFor, wGCons, wGNil, wGT, wIL, wIT, wIdx, wIf, wIfS, wIsi, wIx, wLc, wLst, wMNil, wMO, wMV, wMix, wN, wNeg, wNil, wNot, wNotT, wO, wOp, wOr, wOwn, wPar, wR1, wR2, wRaise, wRaiseF, wRet, wSeq, wSet, wSetI, wSkip, wTAnd, wTNot, wTOr, wTru, wTry, wTryF, wTup, wV, wYes, wSplit, wJoin, wRstrip, wFmt, wJNil, wJCons, wJs, gStr, gIntS, wIS, gSignNotIn, wSl, wSlt, wPn, wPs, gMulT, wGL, wTryAs, wXf, wXis, wCat, wCatV, wIxV, startS, List.length_cons, List.length_nil, List.map_cons, List.map_nil, List.getElem?_cons_zero, List.getElem?_cons_succ, List.set_cons_zero, List.set_cons_succ, List.cons_append, List.nil_append, List.append_nil, List.replicate_succ, List.replicate_zero, Nat.reduceAdd, Nat.reduceSub, ↓reduceIte, Bool.false_eq_true, reduceCtorEq, true_and, and_true, true_or, or_true, false_or, or_false, Bool.not_true, Bool.not_false, Bool.true_and, Bool.false_and, Bool.and_true, decide_eq_true_eq, Bool.not_eq_eq_eq_not, exists_eq_left, exists_eq_left', Option.some.injEq, ls0]
    exact ⟨a, c, rfl, rfl, 2, 6, rfl, by decide, by decide, by decide, fun h oh l2 l6 => hN _ ⟨h, oh, rfl⟩⟩
  rintro S ⟨h, oh, rfl⟩
  have l2 := oh.l2
  have l6 := oh.l6
  have hpl : (pairsOf h.length).length = h.length * (h.length - 1) := pairs_len _ l6
  have hb : 1 ≤ h.length * (h.length - 1) := Nat.mul_le_mul (show 1 ≤ h.length by omega) (show 1 ≤ h.length - 1 by omega)
  have hb2 : h.length * (h.length - 1) ≤ 6 * 5 := Nat.mul_le_mul l6 (by omega)
  refine seq_cut (fun S => S = ls0 a c (.im (eH h)) (.im (.list ((pairsOf h.length).map eP))) .un .un .un .un .un .un .un .un .un) (fun Nx hN => ?_) ?_
  · simp only [w_law_2, bl?, g2, gAdd, gDiv, gEq, gGe, gGt, gI, gIn, gInt, gIs, gIsNot, gLe, gLen, gList, gLt, gMM, gMod, gMul, gMulS, gNe, gNotIn, gPow, gSorted, gSub, gIadd, gSum, gTuple, puts, sV, sVs, slotM, wAnd, wApp, wAsg, wAug, wAugI, wB, wC, wCall, wCallR, wChain, wCons, wDraw, wDrop, wEnL, wEnT, wExt, wFn, wFnO, wFor, wGCons, wGNil, wGT, wIL, wIT, wIdx, wIf, wIfS, wIsi, wIx, wLc, wLst, wMNil, wMO, wMV, wMix, wN, wNeg, wNil, wNot, wNotT, wO, wOp, wOr, wOwn, wPar, wR1, wR2, wRaise, wRaiseF, wRet, wSeq, wSet, wSetI, wSkip, wTAnd, wTNot, wTOr, wTru, wTry, wTryF, wTup, wV, wYes, wSplit, wJoin, wRstrip, wFmt, wJNil, wJCons, wJs, gStr, gIntS, wIS, gSignNotIn, wSl, wSlt, wPn, wPs, gMulT, wGL, wTryAs, wXf, wXis, wCat, wCatV, wIxV, startS, List.length_cons, List.length_nil, List.map_cons, List.map_nil, List.getElem?_cons_zero, List.getElem?_cons_succ, List.set_cons_zero, List.set_cons_succ, List.cons_append, List.nil_append, List.append_nil, List.replicate_succ, List.replicate_zero, Nat.reduceAdd, Nat.reduceSub, ↓reduceIte, Bool.false_eq_true, reduceCtorEq, true_and, and_true, true_or, or_true, false_or, or_false, Bool.not_true, Bool.not_false, Bool.true_and, Bool.false_and, Bool.and_true, decide_eq_true_eq, Bool.not_eq_eq_eq_not, exists_eq_left, exists_eq_left', Option.some.injEq, ls0, eH, List.length_map]
    exact ⟨h.length, rfl, l6, hN _ rfl⟩
  rintro S rfl
  refine seq_cut (fun S => ∃ p s5, OkP h.length p ∧ p.length ≤ 7 ∧ S = ls0 a c (.im (eH h)) (.im (.list ((pairsOf h.length).map eP))) (.im (eL p)) s5 .un .un .un .un .un .un .un) (fun Nx hN => ?_) ?_
  · simp only [w_law_3, bl?, g2, gAdd, gDiv, gEq, gGe, gGt, gI, gIn, gInt, gIs, gIsNot, gLe, gLen, gList, gLt, gMM, gMod, gMul, gMulS, gNe, gNotIn, gPow, gSorted, gSub, gIadd, gSum, gTuple, puts, sV, sVs, slotM, wAnd, wApp, wAsg, wAug, wAugI, wB, wC, wCall, wCallR, wChain, wCons, wDraw, wDrop, wEnL, wEnT, wExt, wFn, wFnO, wFor, wGCons, wGNil, wGT, wIL, wIT, wIdx, wIf, wIfS, wIsi, wIx, wLc, wLst, wMNil, wMO, wMV, wMix, wN, wNeg, wNil, wNot, wNotT, wO, wOp, wOr, wOwn, wPar, wR1, wR2, wRaise, wRaiseF, wRet, wSeq, wSet, wSetI, wSkip, wTAnd, wTNot, wTOr, wTru, wTry, wTryF, wTup, wV, wYes, wSplit, wJoin, wRstrip, wFmt, wJNil, wJCons, wJs, gStr, gIntS, wIS, gSignNotIn, wSl, wSlt, wPn, wPs, gMulT, wGL, wTryAs, wXf, wXis, wCat, wCatV, wIxV, startS, List.length_cons, List.length_nil, List.map_cons, List.map_nil, List.getElem?_cons_zero, List.getElem?_cons_succ, List.set_cons_zero, List.set_cons_succ, List.cons_append, List.nil_append, List.append_nil, List.replicate_succ, List.replicate_zero, Nat.reduceAdd, Nat.reduceSub, ↓reduceIte, Bool.false_eq_true, reduceCtorEq, true_and, and_true, true_or, or_true, false_or, or_false, Bool.not_true, Bool.not_false, Bool.true_and, Bool.false_and, Bool.and_true, decide_eq_true_eq, Bool.not_eq_eq_eq_not, exists_eq_left, exists_eq_left', Option.some.injEq, ls0, notRng, isMut, List.all_cons, List.all_nil]
    refine ⟨a, c, rfl, rfl, by decide, by rw [e31]; decide, fun r r0 r1 => ⟨by rw [e62]; omega, by rw [e62]; omega, ?_⟩⟩
    refine lc_each (fun d => ∃ s, d = eP s ∧ okS h.length s) _ [] True (fun d hd Yes hy No => ?_) (by unfold rangeD; simp; omega) trivial fun zs c' hz hq hc' => ?_
    · obtain ⟨i, _, rfl⟩ := List.mem_map.mp hd
      simp only [bl?, g2, gAdd, gDiv, gEq, gGe, gGt, gI, gIn, gInt, gIs, gIsNot, gLe, gLen, gList, gLt, gMM, gMod, gMul, gMulS, gNe, gNotIn, gPow, gSorted, gSub, gIadd, gSum, gTuple, puts, sV, sVs, slotM, wAnd, wApp, wAsg, wAug, wAugI, wB, wC, wCall, wCallR, wChain, wCons, wDraw, wDrop, wEnL, wEnT, wExt, wFn, wFnO, wFor, wGCons, wGNil, wGT, wIL, wIT, wIdx, wIf, wIfS, wIsi, wIx, wLc, wLst, wMNil, wMO, wMV, wMix, wN, wNeg, wNil, wNot, wNotT, wO, wOp, wOr, wOwn, wPar, wR1, wR2, wRaise, wRaiseF, wRet, wSeq, wSet, wSetI, wSkip, wTAnd, wTNot, wTOr, wTru, wTry, wTryF, wTup, wV, wYes, wSplit, wJoin, wRstrip, wFmt, wJNil, wJCons, wJs, gStr, gIntS, wIS, gSignNotIn, wSl, wSlt, wPn, wPs, gMulT, wGL, wTryAs, wXf, wXis, wCat, wCatV, wIxV, startS, List.length_cons, List.length_nil, List.map_cons, List.map_nil, List.getElem?_cons_zero, List.getElem?_cons_succ, List.set_cons_zero, List.set_cons_succ, List.cons_append, List.nil_append, List.append_nil, List.replicate_succ, List.replicate_zero, Nat.reduceAdd, Nat.reduceSub, ↓reduceIte, Bool.false_eq_true, reduceCtorEq, true_and, and_true, true_or, or_true, false_or, or_false, Bool.not_true, Bool.not_false, Bool.true_and, Bool.false_and, Bool.and_true, decide_eq_true_eq, Bool.not_eq_eq_eq_not, exists_eq_left, exists_eq_left', Option.some.injEq, wipeS, flat, List.length_map]
      refine ⟨a, c, rfl, rfl, by omega, by rw [e31]; omega, fun r r0 r1 => ?_⟩
      obtain ⟨j, rfl⟩ := Int.eq_ofNat_of_zero_le r0
      have hj : j < (pairsOf h.length).length := by omega
      exact ⟨_, atD_map (List.getElem?_eq_getElem hj), by simpa using hy _ ⟨_, rfl, pairs_ok _ (List.getElem_mem hj)⟩⟩
    · obtain ⟨p, rfl, op⟩ := steps_all hq
      have hpn : p.length ≤ 7 := by
        rw [List.length_map] at hz
        rw [hz]
        unfold rangeD
        rw [List.length_map, List.length_range]
        omega
      rw [List.nil_append]
      simp only [startS, List.length_cons, List.length_nil, List.map_cons, List.map_nil, List.getElem?_cons_zero, List.getElem?_cons_succ, List.set_cons_zero, List.set_cons_succ, List.cons_append, List.nil_append, List.append_nil, List.replicate_succ, List.replicate_zero, Nat.reduceAdd, Nat.reduceSub, ↓reduceIte, Bool.false_eq_true, reduceCtorEq, true_and, and_true, true_or, or_true, false_or, or_false, Bool.not_true, Bool.not_false, Bool.true_and, Bool.false_and, Bool.and_true, decide_eq_true_eq, Bool.not_eq_eq_eq_not, exists_eq_left, exists_eq_left', Option.some.injEq, flats_eP]
      exact hN _ ⟨p, _, op, hpn, rfl⟩
  rintro S ⟨p, s5, op, hp, rfl⟩
  have hlen := plan_len oh op (by omega)
  have hrow := rows_plan h p
  have hasT := plan_asT h p
  refine seq_cut (fun S => S = ls0 a c (.im (eH h)) (.im (.list ((pairsOf h.length).map eP))) (.im (eL p)) s5 (.im (eW (planL h p))) .un .un .un .un .un .un) (fun Nx hN => ?_) ?_
  · simp only [w_law_4, bl?, g2, gAdd, gDiv, gEq, gGe, gGt, gI, gIn, gInt, gIs, gIsNot, gLe, gLen, gList, gLt, gMM, gMod, gMul, gMulS, gNe, gNotIn, gPow, gSorted, gSub, gIadd, gSum, gTuple, puts, sV, sVs, slotM, wAnd, wApp, wAsg, wAug, wAugI, wB, wC, wCall, wCallR, wChain, wCons, wDraw, wDrop, wEnL, wEnT, wExt, wFn, wFnO, wFor, wGCons, wGNil, wGT, wIL, wIT, wIdx, wIf, wIfS, wIsi, wIx, wLc, wLst, wMNil, wMO, wMV, wMix, wN, wNeg, wNil, wNot, wNotT, wO, wOp, wOr, wOwn, wPar, wR1, wR2, wRaise, wRaiseF, wRet, wSeq, wSet, wSetI, wSkip, wTAnd, wTNot, wTOr, wTru, wTry, wTryF, wTup, wV, wYes, wSplit, wJoin, wRstrip, wFmt, wJNil, wJCons, wJs, gStr, gIntS, wIS, gSignNotIn, wSl, wSlt, wPn, wPs, gMulT, wGL, wTryAs, wXf, wXis, wCat, wCatV, wIxV, startS, List.length_cons, List.length_nil, List.map_cons, List.map_nil, List.getElem?_cons_zero, List.getElem?_cons_succ, List.set_cons_zero, List.set_cons_succ, List.cons_append, List.nil_append, List.append_nil, List.replicate_succ, List.replicate_zero, Nat.reduceAdd, Nat.reduceSub, ↓reduceIte, Bool.false_eq_true, reduceCtorEq, true_and, and_true, true_or, or_true, false_or, or_false, Bool.not_true, Bool.not_false, Bool.true_and, Bool.false_and, Bool.and_true, decide_eq_true_eq, Bool.not_eq_eq_eq_not, exists_eq_left, exists_eq_left', Option.some.injEq, ls0]
    exact ⟨h, p, rfl, oh, op, by omega, hN _ rfl⟩
  rintro S rfl
  refine seq_cut (fun S => ∃ ls line word, Fault h p ls line word ∧ S = ls0 a c (.im (eH h)) (.im (.list ((pairsOf h.length).map eP))) (.im (eL p)) s5 (.im (eW (planL h p))) (.im (.list (ls.map eW))) (.im (.int (line : Nat))) (.im (.int (word : Nat))) .un .un .un) (fun Nx hN => ?_) ?_
  · have hl2 : (planL h p).length + 2 ≤ sizeLine := by rw [sizeLine_eq]; omega
    simp only [w_law_5, bl?, g2, gAdd, gDiv, gEq, gGe, gGt, gI, gIn, gInt, gIs, gIsNot, gLe, gLen, gList, gLt, gMM, gMod, gMul, gMulS, gNe, gNotIn, gPow, gSorted, gSub, gIadd, gSum, gTuple, puts, sV, sVs, slotM, wAnd, wApp, wAsg, wAug, wAugI, wB, wC, wCall, wCallR, wChain, wCons, wDraw, wDrop, wEnL, wEnT, wExt, wFn, wFnO, wFor, wGCons, wGNil, wGT, wIL, wIT, wIdx, wIf, wIfS, wIsi, wIx, wLc, wLst, wMNil, wMO, wMV, wMix, wN, wNeg, wNil, wNot, wNotT, wO, wOp, wOr, wOwn, wPar, wR1, wR2, wRaise, wRaiseF, wRet, wSeq, wSet, wSetI, wSkip, wTAnd, wTNot, wTOr, wTru, wTry, wTryF, wTup, wV, wYes, wSplit, wJoin, wRstrip, wFmt, wJNil, wJCons, wJs, gStr, gIntS, wIS, gSignNotIn, wSl, wSlt, wPn, wPs, gMulT, wGL, wTryAs, wXf, wXis, wCat, wCatV, wIxV, startS, List.length_cons, List.length_nil, List.map_cons, List.map_nil, List.getElem?_cons_zero, List.getElem?_cons_succ, List.set_cons_zero, List.set_cons_succ, List.cons_append, List.nil_append, List.append_nil, List.replicate_succ, List.replicate_zero, Nat.reduceAdd, Nat.reduceSub, ↓reduceIte, Bool.false_eq_true, reduceCtorEq, true_and, and_true, true_or, or_true, false_or, or_false, Bool.not_true, Bool.not_false, Bool.true_and, Bool.false_and, Bool.and_true, decide_eq_true_eq, Bool.not_eq_eq_eq_not, exists_eq_left, exists_eq_left', Option.some.injEq, ls0, eW, len_nl, len_mkS, hl2]
    rw [split_nl]
    have esp : spl1 10 (planL h p) = linesOf h p := spl1_join (by simp) fun l hl => (lines_ok oh op l hl).1
    rw [esp]
    refine ⟨a, c, rfl, rfl, h, p, rfl, oh, op, hp, fun ls line word F => ?_⟩
    simp only [startS, List.length_cons, List.length_nil, List.map_cons, List.map_nil, List.getElem?_cons_zero, List.getElem?_cons_succ, List.set_cons_zero, List.set_cons_succ, List.cons_append, List.nil_append, List.append_nil, List.replicate_succ, List.replicate_zero, Nat.reduceAdd, Nat.reduceSub, ↓reduceIte, Bool.false_eq_true, reduceCtorEq, true_and, and_true, true_or, or_true, false_or, or_false, Bool.not_true, Bool.not_false, Bool.true_and, Bool.false_and, Bool.and_true, decide_eq_true_eq, Bool.not_eq_eq_eq_not, exists_eq_left, exists_eq_left', Option.some.injEq, flat, flats_eW]
    exact hN _ ⟨ls, line, word, F, rfl⟩
  rintro S ⟨ls, line, word, F, rfl⟩
  refine seq_cut (fun S => S = ls0 a c (.im (eH h)) (.im (.list ((pairsOf h.length).map eP))) (.im (eL p)) s5 (.im (eW (planL h p))) (.im (.list (ls.map eW))) (.im (.int (line : Nat))) (.im (.int (word : Nat))) (.im .none) .un .un) (fun Nx hN => ?_) ?_
  · simp only [w_law_6, bl?, g2, gAdd, gDiv, gEq, gGe, gGt, gI, gIn, gInt, gIs, gIsNot, gLe, gLen, gList, gLt, gMM, gMod, gMul, gMulS, gNe, gNotIn, gPow, gSorted, gSub, gIadd, gSum, gTuple, puts, sV, sVs, slotM, wAnd, wApp, wAsg, wAug, wAugI, wB, wC, wCall, wCallR, wChain, wCons, wDraw, wDrop, wEnL, wEnT, wExt, wFn, wFnO, wFor, wGCons, wGNil, wGT, wIL, wIT, wIdx, wIf, wIfS, wIsi, wIx, wLc, wLst, wMNil, wMO, wMV, wMix, wN, wNeg, wNil, wNot, wNotT, wO, wOp, wOr, wOwn, wPar, wR1, wR2, wRaise, wRaiseF, wRet, wSeq, wSet, wSetI, wSkip, wTAnd, wTNot, wTOr, wTru, wTry, wTryF, wTup, wV, wYes, wSplit, wJoin, wRstrip, wFmt, wJNil, wJCons, wJs, gStr, gIntS, wIS, gSignNotIn, wSl, wSlt, wPn, wPs, gMulT, wGL, wTryAs, wXf, wXis, wCat, wCatV, wIxV, startS, List.length_cons, List.length_nil, List.map_cons, List.map_nil, List.getElem?_cons_zero, List.getElem?_cons_succ, List.set_cons_zero, List.set_cons_succ, List.cons_append, List.nil_append, List.append_nil, List.replicate_succ, List.replicate_zero, Nat.reduceAdd, Nat.reduceSub, ↓reduceIte, Bool.false_eq_true, reduceCtorEq, true_and, and_true, true_or, or_true, false_or, or_false, Bool.not_true, Bool.not_false, Bool.true_and, Bool.false_and, Bool.and_true, decide_eq_true_eq, Bool.not_eq_eq_eq_not, exists_eq_left, exists_eq_left', Option.some.injEq, ls0]
    exact hN _ rfl
  rintro S rfl
  refine seq_cut (fun S => ∃ s11 s12, S = ls0 a c (.im (eH h)) (.im (.list ((pairsOf h.length).map eP))) (.im (eL p)) s5 (.im (eW (planL h p))) (.im (.list (ls.map eW))) (.im (.int (line : Nat))) (.im (.int (word : Nat))) (.im (.tuple [.int (line : Nat), .int (word : Nat)])) s11 s12) (fun Nx hN => ?_) ?_
  · simp only [w_law_7, bl?, g2, gAdd, gDiv, gEq, gGe, gGt, gI, gIn, gInt, gIs, gIsNot, gLe, gLen, gList, gLt, gMM, gMod, gMul, gMulS, gNe, gNotIn, gPow, gSorted, gSub, gIadd, gSum, gTuple, puts, sV, sVs, slotM, wAnd, wApp, wAsg, wAug, wAugI, wB, wC, wCall, wCallR, wChain, wCons, wDraw, wDrop, wEnL, wEnT, wExt, wFn, wFnO, wFor, wGCons, wGNil, wGT, wIL, wIT, wIdx, wIf, wIfS, wIsi, wIx, wLc, wLst, wMNil, wMO, wMV, wMix, wN, wNeg, wNil, wNot, wNotT, wO, wOp, wOr, wOwn, wPar, wR1, wR2, wRaise, wRaiseF, wRet, wSeq, wSet, wSetI, wSkip, wTAnd, wTNot, wTOr, wTru, wTry, wTryF, wTup, wV, wYes, wSplit, wJoin, wRstrip, wFmt, wJNil, wJCons, wJs, gStr, gIntS, wIS, gSignNotIn, wSl, wSlt, wPn, wPs, gMulT, wGL, wTryAs, wXf, wXis, wCat, wCatV, wIxV, startS, List.length_cons, List.length_nil, List.map_cons, List.map_nil, List.getElem?_cons_zero, List.getElem?_cons_succ, List.set_cons_zero, List.set_cons_succ, List.cons_append, List.nil_append, List.append_nil, List.replicate_succ, List.replicate_zero, Nat.reduceAdd, Nat.reduceSub, ↓reduceIte, Bool.false_eq_true, reduceCtorEq, true_and, and_true, true_or, or_true, false_or, or_false, Bool.not_true, Bool.not_false, Bool.true_and, Bool.false_and, Bool.and_true, decide_eq_true_eq, Bool.not_eq_eq_eq_not, exists_eq_left, exists_eq_left', Option.some.injEq, ls0, notRng, isMut, List.all_cons, List.all_nil]
    refine lc_ok eW (fun _ => true) eW ls [] True (fun l hl Yes No hy hno => ?_) (by have := F.n; simp; omega) trivial fun c2 hc2 => ?_
    · simp only [bl?, g2, gAdd, gDiv, gEq, gGe, gGt, gI, gIn, gInt, gIs, gIsNot, gLe, gLen, gList, gLt, gMM, gMod, gMul, gMulS, gNe, gNotIn, gPow, gSorted, gSub, gIadd, gSum, gTuple, puts, sV, sVs, slotM, wAnd, wApp, wAsg, wAug, wAugI, wB, wC, wCall, wCallR, wChain, wCons, wDraw, wDrop, wEnL, wEnT, wExt, wFn, wFnO, wFor, wGCons, wGNil, wGT, wIL, wIT, wIdx, wIf, wIfS, wIsi, wIx, wLc, wLst, wMNil, wMO, wMV, wMix, wN, wNeg, wNil, wNot, wNotT, wO, wOp, wOr, wOwn, wPar, wR1, wR2, wRaise, wRaiseF, wRet, wSeq, wSet, wSetI, wSkip, wTAnd, wTNot, wTOr, wTru, wTry, wTryF, wTup, wV, wYes, wSplit, wJoin, wRstrip, wFmt, wJNil, wJCons, wJs, gStr, gIntS, wIS, gSignNotIn, wSl, wSlt, wPn, wPs, gMulT, wGL, wTryAs, wXf, wXis, wCat, wCatV, wIxV, startS, List.length_cons, List.length_nil, List.map_cons, List.map_nil, List.getElem?_cons_zero, List.getElem?_cons_succ, List.set_cons_zero, List.set_cons_succ, List.cons_append, List.nil_append, List.append_nil, List.replicate_succ, List.replicate_zero, Nat.reduceAdd, Nat.reduceSub, ↓reduceIte, Bool.false_eq_true, reduceCtorEq, true_and, and_true, true_or, or_true, false_or, or_false, Bool.not_true, Bool.not_false, Bool.true_and, Bool.false_and, Bool.and_true, decide_eq_true_eq, Bool.not_eq_eq_eq_not, exists_eq_left, exists_eq_left', Option.some.injEq, wipeS, flat_eW]
      simpa using hy rfl
    · rw [List.nil_append, List.filter_eq_self.mpr (fun _ _ => rfl)]
      have hb4 : ((ls.map mkS).map (·.length)).sum + (ls.map mkS).length * ("\n" : Str).length ≤ 16777216 := join_fit (B := 400) F.ln (by
        have : ("\n" : Str).length = 1 := by decide +kernel
        rw [this]
        have := F.n
        omega)
      refine ⟨ls.map mkS, strs_eW ls, hb4, ?_⟩
      rw [join_mk, tl_nl]
      have h4 := len_joinL 10 400 ls F.ln
      have hn := F.n
      refine ⟨_, rfl, by omega, asT_small fun c hc => ?_, ?_⟩
      · rcases mem_joinL hc with z | ⟨w, hw, z⟩
        · omega
        · exact F.lt w hw c z
      · rw [rows_join F.ne F.nl, F.err]
        simp only [res, m_InvalidText, startS, List.length_cons, List.length_nil, List.map_cons, List.map_nil, List.getElem?_cons_zero, List.getElem?_cons_succ, List.set_cons_zero, List.set_cons_succ, List.cons_append, List.nil_append, List.append_nil, List.replicate_succ, List.replicate_zero, Nat.reduceAdd, Nat.reduceSub, ↓reduceIte, Bool.false_eq_true, reduceCtorEq, true_and, and_true, true_or, or_true, false_or, or_false, Bool.not_true, Bool.not_false, Bool.true_and, Bool.false_and, Bool.and_true, decide_eq_true_eq, Bool.not_eq_eq_eq_not, exists_eq_left, exists_eq_left', Option.some.injEq, bl?, g2, gAdd, gDiv, gEq, gGe, gGt, gI, gIn, gInt, gIs, gIsNot, gLe, gLen, gList, gLt, gMM, gMod, gMul, gMulS, gNe, gNotIn, gPow, gSorted, gSub, gIadd, gSum, gTuple, puts, sV, sVs, slotM, wAnd, wApp, wAsg, wAug, wAugI, wB, wC, wCall, wCallR, wChain, wCons, wDraw, wDrop, wEnL, wEnT, wExt, wFn, wFnO, wFor, wGCons, wGNil, wGT, wIL, wIT, wIdx, wIf, wIfS, wIsi, wIx, wLc, wLst, wMNil, wMO, wMV, wMix, wN, wNeg, wNil, wNot, wNotT, wO, wOp, wOr, wOwn, wPar, wR1, wR2, wRaise, wRaiseF, wRet, wSeq, wSet, wSetI, wSkip, wTAnd, wTNot, wTOr, wTru, wTry, wTryF, wTup, wV, wYes, wSplit, wJoin, wRstrip, wFmt, wJNil, wJCons, wJs, gStr, gIntS, wIS, gSignNotIn, wSl, wSlt, wPn, wPs, gMulT, wGL, wTryAs, wXf, wXis, wCat, wCatV, wIxV]
        intro e d hd
        have hd' : d.isSome = true := by
          rcases hd with z | z
          · cases d with
            | none => simp at z
            | some q => rfl
          · exact z
        refine ⟨_, true, rfl, rfl, ?_⟩
        simp only [startS, List.length_cons, List.length_nil, List.map_cons, List.map_nil, List.getElem?_cons_zero, List.getElem?_cons_succ, List.set_cons_zero, List.set_cons_succ, List.cons_append, List.nil_append, List.append_nil, List.replicate_succ, List.replicate_zero, Nat.reduceAdd, Nat.reduceSub, ↓reduceIte, Bool.false_eq_true, reduceCtorEq, true_and, and_true, true_or, or_true, false_or, or_false, Bool.not_true, Bool.not_false, Bool.true_and, Bool.false_and, Bool.and_true, decide_eq_true_eq, Bool.not_eq_eq_eq_not, exists_eq_left, exists_eq_left', Option.some.injEq]
        refine ⟨hd', _, _, _, rfl, rfl, rfl, hd', _, _, _, rfl, rfl, rfl, by decide, ?_⟩
        exact hN _ ⟨_, _, rfl⟩
  rintro S ⟨s11, s12, rfl⟩
  simp only [w_law_8, bl?, g2, gAdd, gDiv, gEq, gGe, gGt, gI, gIn, gInt, gIs, gIsNot, gLe, gLen, gList, gLt, gMM, gMod, gMul, gMulS, gNe, gNotIn, gPow, gSorted, gSub, gIadd, gSum, gTuple, puts, sV, sVs, slotM, wAnd, wApp, wAsg, wAug, wAugI, wB, wC, wCall, wCallR, wChain, wCons, wDraw, wDrop, wEnL, wEnT, wExt, wFn, wFnO, wFor, wGCons, wGNil, wGT, wIL, wIT, wIdx, wIf, wIfS, wIsi, wIx, wLc, wLst, wMNil, wMO, wMV, wMix, wN, wNeg, wNil, wNot, wNotT, wO, wOp, wOr, wOwn, wPar, wR1, wR2, wRaise, wRaiseF, wRet, wSeq, wSet, wSetI, wSkip, wTAnd, wTNot, wTOr, wTru, wTry, wTryF, wTup, wV, wYes, wSplit, wJoin, wRstrip, wFmt, wJNil, wJCons, wJs, gStr, gIntS, wIS, gSignNotIn, wSl, wSlt, wPn, wPs, gMulT, wGL, wTryAs, wXf, wXis, wCat, wCatV, wIxV, startS, List.length_cons, List.length_nil, List.map_cons, List.map_nil, List.getElem?_cons_zero, List.getElem?_cons_succ, List.set_cons_zero, List.set_cons_succ, List.cons_append, List.nil_append, List.append_nil, List.replicate_succ, List.replicate_zero, Nat.reduceAdd, Nat.reduceSub, ↓reduceIte, Bool.false_eq_true, reduceCtorEq, true_and, and_true, true_or, or_true, false_or, or_false, Bool.not_true, Bool.not_false, Bool.true_and, Bool.false_and, Bool.and_true, decide_eq_true_eq, Bool.not_eq_eq_eq_not, exists_eq_left, exists_eq_left', Option.some.injEq, ls0, shaped_ii, eqv_ii]
  refine ⟨by decide, ?_⟩
  refine read_use oh op (by omega) (by omega) hasT hrow ⟨by decide, shaped_HP h p, shaped_HP h p, ?_⟩
  rw [eqv_HP]
end Pu


namespace Pu
open PySem L2
def top (i : Nat) : Stmt := PySem.Challenge.pw_heapsdouble_k08_whole_texts_refused.main.body.getD i (.Pass ⟨0, 0, 0, 0⟩)
def inC (st : Stmt) (i : Nat) : Stmt := match st with
  | .ClassDef _ _ _ b _ _ _ _ _ _ _ => b.getD i (.Pass ⟨0, 0, 0, 0⟩)
  | st => st
structure Txt (K : PySem.W.Frag) (mg : Str → Option Value) : Prop where
  f_law_fault : ∃ (f : Addr) (fd : FuncData), Fun K "_law_fault" "_law_fault" (top 29) f fd ∧ mg "_law_fault" = some (.ref f)
  f_law_heaps : ∃ (f : Addr) (fd : FuncData), Fun K "_law_heaps" "_law_heaps" (top 25) f fd ∧ mg "_law_heaps" = some (.ref f)
  f_law_pairs : ∃ (f : Addr) (fd : FuncData), Fun K "_law_pairs" "_law_pairs" (top 28) f fd ∧ mg "_law_pairs" = some (.ref f)
  f_number_at : ∃ (f : Addr) (fd : FuncData), Fun K "number_at" "number_at" (top 18) f fd ∧ mg "number_at" = some (.ref f)
  f_read_heaps : ∃ (f : Addr) (fd : FuncData), Fun K "read_heaps" "read_heaps" (top 19) f fd ∧ mg "read_heaps" = some (.ref f)
  f_read_step : ∃ (f : Addr) (fd : FuncData), Fun K "read_step" "read_step" (top 20) f fd ∧ mg "read_step" = some (.ref f)
  f_read_plan : ∃ (f : Addr) (fd : FuncData), Fun K "read_plan" "read_plan" (top 21) f fd ∧ mg "read_plan" = some (.ref f)
  f_is_integer : ∃ (f : Addr) (fd : FuncData), Fun K "is_integer" "is_integer" (top 10) f fd ∧ mg "is_integer" = some (.ref f)
  f_is_from : ∃ (f : Addr) (fd : FuncData), Fun K "is_from" "is_from" (top 11) f fd ∧ mg "is_from" = some (.ref f)
  f_check_heaps : ∃ (f : Addr) (fd : FuncData), Fun K "check_heaps" "check_heaps" (top 12) f fd ∧ mg "check_heaps" = some (.ref f)
  f_is_step : ∃ (f : Addr) (fd : FuncData), Fun K "is_step" "is_step" (top 13) f fd ∧ mg "is_step" = some (.ref f)
  f_check_plan : ∃ (f : Addr) (fd : FuncData), Fun K "check_plan" "check_plan" (top 14) f fd ∧ mg "check_plan" = some (.ref f)
  f_write_plan : ∃ (f : Addr) (fd : FuncData), Fun K "write_plan" "write_plan" (top 17) f fd ∧ mg "write_plan" = some (.ref f)
  f_law : ∃ (f : Addr) (fd : FuncData), Fun K "law" "law" (top 30) f fd ∧ mg "law" = some (.ref f)
  f_law_mix : ∃ (f : Addr) (fd : FuncData), Fun K "_law_mix" "_law_mix" (top 23) f fd ∧ mg "_law_mix" = some (.ref f)
  f_law_next : ∃ (f : Addr) (fd : FuncData), Fun K "_law_next" "_law_next" (top 24) f fd ∧ mg "_law_next" = some (.ref f)
  b_bool : mg "bool" = none
  b_enumerate : mg "enumerate" = none
  b_int : mg "int" = none
  b_isinstance : mg "isinstance" = none
  b_len : mg "len" = none
  b_list : mg "list" = none
  b_max : mg "max" = none
  b_range : mg "range" = none
  b_str : mg "str" = none
  b_tuple : mg "tuple" = none
  c_LEAST_HEAPS : ∃ t, mg "LEAST_HEAPS" = some (.int 2 t)
  c_MOST_HEAPS : ∃ t, mg "MOST_HEAPS" = some (.int 6 t)
  c_MOST_IN_HEAP : ∃ t, mg "MOST_IN_HEAP" = some (.int 1000000000000000000000000000000 t)
  c_MOST_STEPS : ∃ t, mg "MOST_STEPS" = some (.int 20000 t)
  c_MOST_FIGURES : ∃ t, mg "MOST_FIGURES" = some (.int 31 t)
  r_BadHeaps : RaiseC K mg "BadHeaps"
  i_BadPlan : ∃ (C fI : Addr) (fd : FuncData), mg "BadPlan" = some (.ref C) ∧ OexC K C ∧ PySem.W.findIn K (.ref C) "__init__" = some (some (.ref fI)) ∧ PySem.W.typeIn K (.ref fI) = some (.type "function") ∧ Fun K "__init__" "BadPlan.__init__" (inC (top 3) 0) fI fd ∧ PySem.W.findIn K (.ref C) "index" = some none
  i_InvalidText : ∃ (C fI : Addr) (fd : FuncData), mg "InvalidText" = some (.ref C) ∧ OexC K C ∧ PySem.W.findIn K (.ref C) "__init__" = some (some (.ref fI)) ∧ PySem.W.typeIn K (.ref fI) = some (.type "function") ∧ Fun K "__init__" "InvalidText.__init__" (inC (top 4) 0) fI fd ∧ PySem.W.findIn K (.ref C) "line" = some none ∧ PySem.W.findIn K (.ref C) "word" = some none
  x_InvalidText : ∃ C, mg "InvalidText" = some (.ref C) ∧ Catch K mg C m_InvalidText ∧ XfC K C ∧ PySem.W.findIn K (.ref C) "line" = some none ∧ PySem.W.findIn K (.ref C) "word" = some none
  is_HeapError : IsX K mg "HeapError" mIs_HeapError
section
variable {P : Program} {w : World} {K : PySem.W.Frag} {mg : Str → Option Value} {base : Heap}
theorem sc_next : FnScope ["_law_h", "_law_bound", "_law_cell", "_law_cells"] ["_law_h", "_law_bound"] (defScope (top 24)) := ⟨rfl, rfl, rfl, by decide +kernel, rfl, by decide +kernel, by decide +kernel⟩
theorem ok_next {f : Addr} {fd : FuncData} {k : Nat} (T : Txt K mg) (F : Fun K "_law_next" "_law_next" (top 24) f fd) : FnOk P w K mg base (L2.CX P w) (k + 1) f fd ["_law_h", "_law_bound"] spNext := by
  refine F.okX sc_next (fun vs H Q E h => by obtain ⟨a, c, n, rfl, _⟩ := h; rfl) (fun cdv A outer s H vs Q E hr h => ?_)
  obtain ⟨a, c, n, rfl, hac, ⟨st, ix, ns, h1, h2, h3⟩, n1, n2, q⟩ := h
  have nd := sc_next.nd
  have e31 : (10 : Int) ^ 31 = 10000000000000000000000000000000 := by decide
  have e110 : (2 : Nat) ^ 110 = 1298074214633706907132624082305024 := by decide
  have hn : n.natAbs < 2 ^ 110 := by rw [e110]; rw [e31] at n2; omega
  refine ⟨_, pss_cons (ps_set (i := 2) nd rfl (.inl rfl) (pe_ix ix_seq (pe_op op_cat (pe_ix ix_seq (pe_var (i := 0) rfl (.inl rfl)) pe_int (fun _ _ => rfl)) (pe_lst (pa_cons pe_int pa_nil)))
      (pe_op op_modN (pe_callTy call_int1 rfl T.b_int bt_int (pa_cons (pe_ix ix_seq (pe_var (i := 0) rfl (.inl rfl)) pe_int (fun _ _ => rfl)) pa_nil)) (pe_callB (call_max2 rfl) rfl T.b_max bb_max (pa_cons pe_int (pa_cons (pe_callB call_len rfl T.b_len bb_len (pa_cons (pe_ix ix_seq (pe_var (i := 0) rfl (.inl rfl)) pe_int (fun _ _ => rfl)) pa_nil)) pa_nil)))) (fun _ _ => rfl)))
    (pss_cons (ps_if (pt_cmpR op_ge (pe_var (i := 2) rfl (.inl rfl)) (pe_op op_pow pe_int pe_int) (by first | exact nobehind _ (by decide) (by decide) | rfl))
      (pss_cons (ps_set (i := 3) nd rfl (.inl rfl) (pe_ix ix_seq (pe_var (i := 0) rfl (.inl rfl)) pe_int (fun _ _ => rfl)))
        (pss_cons (ps_asg (pe_op op_fdivW (pe_var (i := 2) rfl (.inl rfl)) (pe_var (i := 1) rfl (.inl rfl))) (pg_sub (pe_var (i := 3) rfl (.inl rfl)) (pe_op op_modN (pe_callTy call_int1 rfl T.b_int bt_int (pa_cons (pe_ix ix_seq (pe_var (i := 0) rfl (.inl rfl)) pe_int (fun _ _ => rfl)) pa_nil)) (pe_callB call_len rfl T.b_len bb_len (pa_cons (pe_var (i := 3) rfl (.inl rfl)) pa_nil))) set_list (by intro _; rfl)) rfl rfl rfl)
          (pss_one (ps_ret (pe_op op_modN (pe_callTy call_int1 rfl T.b_int bt_int (pa_cons (pe_var (i := 2) rfl (.inl rfl)) pa_nil)) (pe_var (i := 1) rfl (.inl rfl)))))))
      pss_nil)
    (pss_cons (ps_asg (pe_op op_modN (pe_callTy call_int1 rfl T.b_int bt_int (pa_cons (pe_op op_add (pe_op op_add (pe_op op_mul (pe_ix ix_seq (pe_var (i := 0) rfl (.inl rfl)) pe_int (fun _ _ => rfl)) pe_int) (pe_op op_mul (pe_var (i := 2) rfl (.inl rfl)) pe_int)) pe_int) pa_nil)) pe_int) (pg_sub (pe_var (i := 0) rfl (.inl rfl)) pe_int set_list (by intro _; rfl)) rfl rfl rfl)
      (pss_cons (ps_asg (pe_op op_add (pe_ix ix_seq (pe_var (i := 0) rfl (.inl rfl)) pe_int (fun _ _ => rfl)) pe_int) (pg_sub (pe_var (i := 0) rfl (.inl rfl)) pe_int set_list (by intro _; rfl)) rfl rfl rfl)
        (pss_one (ps_ret (pe_op op_modN (pe_callTy call_int1 rfl T.b_int bt_int (pa_cons (pe_op op_fdiv (pe_ix ix_seq (pe_var (i := 0) rfl (.inl rfl)) pe_int (fun _ _ => rfl)) pe_int) pa_nil)) (pe_var (i := 1) rfl (.inl rfl)))))))), ?_⟩
  refine ⟨.ref a, rfl, .inl ⟨a, _, 1, .ref c, rfl, rfl, SqL.at h1, rfl, ?_⟩⟩
  refine ⟨by decide, fun p hp => ⟨c, p, ns.map .int, [.int 0], rfl, rfl, ?_, upd_same, ?_, fun p2 hp2 => ?_⟩⟩
  · rw [upd_ne (ne_of_none h2 hp)]; exact h2
  · rw [List.length_map, sizeLine_eq]; simp; omega
  have k1 : But a c H (upd (upd H p (.lst [.int 0])) p2 (.lst (ns.map .int ++ [.int 0]))) := fun b u _ _ e => by
    have e1 : upd H p (.lst [.int 0]) b = some u := by rw [upd_ne (ne_of_none e hp)]; exact e
    rw [upd_ne (ne_of_none e1 hp2)]; exact e1
  have ga : upd (upd H p (.lst [.int 0])) p2 (.lst (ns.map .int ++ [.int 0])) a = some (.lst [.int st, .ref c, .int ix]) := by
    have e1 : upd H p (.lst [.int 0]) a = _ := (upd_ne (ne_of_none h1 hp)).trans h1
    rw [upd_ne (ne_of_none e1 hp2)]; exact e1
  have gc : upd (upd H p (.lst [.int 0])) p2 (.lst (ns.map .int ++ [.int 0])) c = some (.lst (ns.map .int)) := by
    have e1 : upd H p (.lst [.int 0]) c = _ := (upd_ne (ne_of_none h2 hp)).trans h2
    rw [upd_ne (ne_of_none e1 hp2)]; exact e1
  have gp : upd (upd H p (.lst [.int 0])) p2 (.lst (ns.map .int ++ [.int 0])) p2 = some (.lst ((ns ++ [0]).map .int)) := by
    rw [upd_same, List.map_append]; rfl
  generalize upd (upd H p (.lst [.int 0])) p2 (.lst (ns.map .int ++ [.int 0])) = G at k1 ga gc gp
  refine ⟨.ref a, rfl, .inl ⟨a, _, 2, .int ix, rfl, rfl, SqL.at ga, rfl, .inl ⟨ix, rfl, ?_⟩⟩⟩
  refine ⟨.ref a, rfl, .inl ⟨a, _, 1, .ref c, rfl, rfl, SqL.at ga, rfl, ?_⟩⟩
  refine ⟨_, (ns.map V.int).length, rfl, .inl ⟨_, SqL.at gc, rfl⟩, 1, _, rfl, ?_⟩
  have hM : (1 : Int) ≤ (if ((ns.map V.int).length : Int) > 1 then ((ns.map V.int).length : Int) else 1) := by split <;> omega
  have hM2 : (if ((ns.map V.int).length : Int) > 1 then ((ns.map V.int).length : Int) else 1) ≤ ((ns ++ [0]).length : Int) := by
    rw [List.length_append, List.length_map]; simp only [List.length_cons, List.length_nil]; split <;> omega
  generalize (if ((ns.map V.int).length : Int) > 1 then ((ns.map V.int).length : Int) else 1) = M at hM hM2
  refine ⟨ix, M, rfl, rfl, by omega, ?_⟩
  obtain ⟨f1, f2⟩ := fmod_in (i := ix) hM
  obtain ⟨cell, ec, mc⟩ := at_ints (l := ns ++ [0]) f1 (by omega)
  refine .inl ⟨p2, _, _, .int cell, rfl, rfl, SqL.at gp, ec, ?_⟩
  refine ⟨_, rfl, 10, 18, rfl, rfl, ⟨by decide, by decide, by decide⟩, cell, _, rfl, rfl, ?_⟩
  have h18 : ((10 : Int) ^ (18 : Int).toNat) = 1000000000000000000 := by decide
  refine ⟨_, rfl, ?_⟩
  by_cases hb : (10 : Int) ^ (18 : Int).toNat ≤ cell
  · refine Eq.mpr (if_pos (decide_eq_true hb)) ?_
    rw [h18] at hb
    have hz : cell ≠ 0 := by omega
    have mc' : cell ∈ ns := by
      rcases List.mem_append.mp mc with z | z
      · exact z
      · exact absurd (List.mem_singleton.mp z) hz
    have hl : 0 < ns.length := List.length_pos_of_mem mc'
    refine ⟨.ref a, rfl, .inl ⟨a, _, 1, .ref c, rfl, rfl, SqL.at ga, rfl, ?_⟩⟩
    refine ⟨_, rfl, _, rfl, cell, n, rfl, rfl, wide_div (b := 110) (by omega) hn (by decide) (by decide), ?_⟩
    refine ⟨.ref c, rfl, .ref a, rfl, .inl ⟨a, _, 2, .int ix, rfl, rfl, SqL.at ga, rfl, .inl ⟨ix, rfl, ?_⟩⟩⟩
    refine ⟨.ref c, rfl, _, (ns.map V.int).length, rfl, .inl ⟨_, SqL.at gc, rfl⟩, ix, _, rfl, rfl, ?_, ?_⟩
    · rw [List.length_map]; omega
    obtain ⟨g1, g2⟩ := fmod_in (i := ix) (j := ((ns.map V.int).length : Int)) (by rw [List.length_map]; omega)
    obtain ⟨j, ej⟩ := Int.eq_ofNat_of_zero_le g1
    have hj : j < (ns.map V.int).length := by omega
    refine ⟨c, ns.map V.int, _, j, rfl, rfl, gc, by rw [ej]; exact ixN_nat hj, ?_⟩
    refine ⟨_, rfl, .inl ⟨cell, rfl, _, rfl, cell, n, rfl, rfl, by omega, ?_⟩⟩
    obtain ⟨r1, r2⟩ := fmod_in (i := cell) n1
    refine q _ _ r1 r2 (fun b u b1 b2 e => ?_) ⟨st, ix, ns.set j (cell / n), ?_, ?_, by rw [List.length_set]; exact h3⟩
    · rw [upd_ne b2]; exact k1 b u b1 b2 e
    · rw [upd_ne hac]; exact ga
    · rw [upd_same, List.map_set]
  · refine Eq.mpr (if_neg (by rw [decide_eq_false hb]; exact Bool.false_ne_true)) ?_
    refine ⟨.ref a, rfl, .inl ⟨a, _, 0, .int st, rfl, rfl, SqL.at ga, rfl, st, 48271, rfl, rfl, .inr ⟨by decide, by decide⟩, ?_⟩⟩
    refine ⟨_, rfl, cell, 69621, rfl, rfl, .inr ⟨by decide, by decide⟩, _, _, rfl, rfl, _, _, rfl, rfl, .inl ⟨_, rfl, _, _, rfl, rfl, show (2147483647 : Int) ≠ 0 by decide, ?_⟩⟩
    refine ⟨.ref a, rfl, a, _, 0, 0, rfl, rfl, ga, rfl, ?_⟩
    refine ⟨.ref a, rfl, .inl ⟨a, _, 2, .int ix, rfl, rfl, SqL.at upd_same, rfl, ix, 1, rfl, rfl, ?_⟩⟩
    refine ⟨.ref a, rfl, a, _, 2, 2, rfl, rfl, upd_same, rfl, ?_⟩
    refine ⟨.ref a, rfl, .inl ⟨a, _, 0, _, rfl, rfl, SqL.at upd_same, rfl, _, 7, rfl, rfl, ⟨by decide, by decide⟩, .inl ⟨_, rfl, _, rfl, _, n, rfl, rfl, by omega, ?_⟩⟩⟩
    obtain ⟨r1, r2⟩ := fmod_in (i := ((st * 48271 + cell * 69621 + 11).fmod 2147483647) / 7) n1
    refine q _ _ r1 r2 (fun b u b1 b2 e => ?_) ⟨_, _, ns, upd_same, ?_, h3⟩
    · rw [upd_ne b1, upd_ne b1]; exact k1 b u b1 b2 e
    · rw [upd_ne (Ne.symm hac), upd_ne (Ne.symm hac)]; exact gc
theorem sc_mix : FnScope ["_law_script", "_law_seed", "_law_state", "_law_cell"] ["_law_script", "_law_seed"] (defScope (top 23)) := ⟨rfl, rfl, rfl, by decide +kernel, rfl, by decide +kernel, by decide +kernel⟩
theorem ok_mix {f : Addr} {fd : FuncData} {k : Nat} (T : Txt K mg) (F : Fun K "_law_mix" "_law_mix" (top 23) f fd) : FnOk P w K mg base (L2.CX P w) (k + 1) f fd ["_law_script", "_law_seed"] (spMix K) := by
  refine F.okX sc_mix (fun vs H Q E h => by obtain ⟨a, ns, seed, rfl, _⟩ := h; rfl) (fun cdv A outer s H vs Q E hr h => ?_)
  obtain ⟨a, ns, seed, rfl, h1, h2, q⟩ := h
  have nd := sc_mix.nd
  refine ⟨_, pss_cons (ps_set (i := 2) nd rfl (.inl rfl) (pe_var (i := 1) rfl (.inl rfl)))
    (pss_cons (ps_for (passes_of rfl) rfl (pi_list (pe_var (i := 0) rfl (.inl rfl))) (pg_name (i := 3) nd rfl (.inl rfl) (.inl rfl))
      (pss_one (ps_set (i := 2) nd rfl (.inl rfl) (pe_op op_modN (pe_callTy call_int1 rfl T.b_int bt_int (pa_cons (pe_op op_add (pe_op op_add (pe_op op_mul (pe_var (i := 2) rfl (.inl rfl)) pe_int) (pe_op op_modN (pe_callTy call_int1 rfl T.b_int bt_int (pa_cons (pe_var (i := 3) rfl (.inl rfl)) pa_nil)) pe_int)) pe_int) pa_nil)) pe_int))) (by intro _; rfl))
    (pss_one (ps_ret (pe_lst (pa_cons (pe_var (i := 2) rfl (.inl rfl)) (pa_cons (pe_callTy call_list_of rfl T.b_list bt_list (pa_cons (pe_var (i := 0) rfl (.inl rfl)) pa_nil)) (pa_cons pe_int pa_nil))))))), ?_⟩
  refine ⟨.int seed, rfl, .ref a, rfl, a, rfl, ⟨_, h1⟩, ?_⟩
  refine ⟨fun i m σ H' => m = ns.length - i ∧ i ≤ ns.length ∧ H' = H ∧ ∃ (z : Int) (u : Option V), σ = [some (.ref a), some (.int seed), some (.int z), u], ⟨ns.length, by simp, Nat.zero_le _, rfl, seed, none, rfl⟩, ?_⟩
  rintro i m σ' H' ⟨rfl, hi, rfl, z, u, rfl⟩
  by_cases hlt : i < ns.length
  · right
    have hx : (ns.map V.int)[i]? = some (.int ns[i]) := by rw [List.getElem?_map, List.getElem?_eq_getElem hlt]; rfl
    refine ⟨⟨_, _, h1, hx⟩, fun σ' H2 => i + 1 ≤ ns.length ∧ H2 = H' ∧ ∃ (z : Int) (u : Option V), σ' = [some (.ref a), some (.int seed), some (.int z), u], fun σ2 H2 ⟨q1, q2, q3⟩ => ⟨ns.length - (i + 1), by omega, rfl, q1, q2, q3⟩, fun x H2 hy => ?_⟩
    obtain ⟨rfl, hy⟩ := hy
    have e := hy _ h1
    rw [hx] at e
    cases e
    refine ⟨.int z, rfl, z, 48271, rfl, rfl, .inr ⟨by decide, by decide⟩, _, rfl, .inl ⟨_, rfl, _, 2147483629, rfl, rfl, show (2147483629 : Int) ≠ 0 by decide, ?_⟩⟩
    refine ⟨_, _, rfl, rfl, _, _, rfl, rfl, .inl ⟨_, rfl, _, 2147483647, rfl, rfl, show (2147483647 : Int) ≠ 0 by decide, ?_⟩⟩
    exact ⟨hlt, rfl, _, _, rfl⟩
  · left
    refine ⟨⟨_, h1, by rw [List.length_map]; omega⟩, ?_⟩
    refine ⟨.int z, rfl, .ref a, rfl, a, _, rfl, .inl h1, fun c hc => ⟨show 3 ≤ sizeLine by decide, fun p hp => ?_⟩⟩
    have nec : p ≠ c := fun e => by rw [e, upd_same] at hp; cases hp
    have hp0 : H' p = none := by rw [upd_ne nec] at hp; exact hp
    refine q p c _ hp0 hc nec (fun b u e => ?_) ⟨z, 0, ns, upd_same, ?_, h2⟩
    · have b1 := ne_of_none e hc
      have b2 := ne_of_none e hp0
      rw [upd_ne b2, upd_ne b1]; exact e
    · rw [upd_ne (Ne.symm nec), upd_same]
theorem D_law_next (T : Txt K mg) : Def P w K mg base 1 "_law_next" 2 spNext := by
  obtain ⟨f, fd, F, hm⟩ := T.f_law_next
  exact ⟨f, fd, _, ok_next (k := 0) T F, hm, F.kp, F.binds (ps := ["_law_h", "_law_bound"]) fun _ _ _ _ _ _ us hl => match us, hl with | [_, _], _ => rfl, rfl⟩
theorem D_law_mix (T : Txt K mg) : Def P w K mg base 1 "_law_mix" 2 (spMix K) := by
  obtain ⟨f, fd, F, hm⟩ := T.f_law_mix
  exact ⟨f, fd, _, ok_mix (k := 0) T F, hm, F.kp, F.binds (ps := ["_law_script", "_law_seed"]) fun _ _ _ _ _ _ us hl => match us, hl with | [_, _], _ => rfl, rfl⟩
theorem sc_init_BadPlan : FnScope ["self", "index"] ["self", "index"] (defScope (inC (top 3) 0)) := ⟨rfl, rfl, rfl, by decide +kernel, rfl, by decide +kernel, by decide +kernel⟩
theorem oi_BadPlan {C f : Addr} {fd : FuncData} {k : Nat} (T : OexC K C) (n1 : PySem.W.findIn K (.ref C) "index" = some none) (F : Fun K "__init__" "BadPlan.__init__" (inC (top 3) 0) f fd) : FnOk P w K mg base (L2.CX P w) (k + 1) f fd ["self", "index"] (spInit C ["index"]) := by
  refine F.okX sc_init_BadPlan (fun vs H Q E h => by obtain ⟨a, us, rfl, hl, _⟩ := h; rw [List.length_cons, hl]; rfl) (fun cdv A outer s H vs Q E hr h => ?_)
  obtain ⟨a, us, rfl, hl, ha, q⟩ := h
  obtain ⟨y, rfl⟩ : ∃ y, us = [y] := by
    match us, hl with
    | [y], _ => exact ⟨y, rfl⟩
  refine ⟨_, pss_one (ps_ost (pe_var (i := 0) rfl (.inl rfl)) (pe_var (i := 1) rfl (.inl rfl))), ?_⟩
  refine ⟨y, rfl, .ref a, rfl, a, C, rfl, T, n1, .inl ⟨ha, fun dx h1 h2 => ?_⟩⟩
  exact q dx _ h1 h2 upd_same (by rw [upd_ne h2, upd_same]; rfl) fun b b1 b2 => by rw [upd_ne b1, upd_ne b2]
theorem I_BadPlan (T : Txt K mg) : RaiseF P w K mg base 1 "BadPlan" ["index"] := by
  obtain ⟨C, fI, fd, h1, h2, h3, h4, h5, h6⟩ := T.i_BadPlan
  exact ⟨C, fI, fd, h1, h2, h3, h4, oi_BadPlan h2 h6 h5, h5.binds (ps := ["self", "index"]) fun _ _ _ _ _ _ us hl => match us, hl with | [_, _], _ => rfl⟩
theorem sc_init_InvalidText : FnScope ["self", "line", "word"] ["self", "line", "word"] (defScope (inC (top 4) 0)) := ⟨rfl, rfl, rfl, by decide +kernel, rfl, by decide +kernel, by decide +kernel⟩
theorem oi_InvalidText {C f : Addr} {fd : FuncData} {k : Nat} (T : OexC K C) (n1 : PySem.W.findIn K (.ref C) "line" = some none) (n2 : PySem.W.findIn K (.ref C) "word" = some none) (F : Fun K "__init__" "InvalidText.__init__" (inC (top 4) 0) f fd) : FnOk P w K mg base (L2.CX P w) (k + 1) f fd ["self", "line", "word"] (spInit C ["line", "word"]) := by
  refine F.okX sc_init_InvalidText (fun vs H Q E h => by obtain ⟨a, us, rfl, hl, _⟩ := h; rw [List.length_cons, hl]; rfl) (fun cdv A outer s H vs Q E hr h => ?_)
  obtain ⟨a, us, rfl, hl, ha, q⟩ := h
  obtain ⟨y, z, rfl⟩ : ∃ y z, us = [y, z] := by
    match us, hl with
    | [y, z], _ => exact ⟨y, z, rfl⟩
  refine ⟨_, pss_cons (ps_ost (pe_var (i := 0) rfl (.inl rfl)) (pe_var (i := 1) rfl (.inl rfl))) (pss_one (ps_ost (pe_var (i := 0) rfl (.inl rfl)) (pe_var (i := 2) rfl (.inl rfl)))), ?_⟩
  refine ⟨y, rfl, .ref a, rfl, a, C, rfl, T, n1, .inl ⟨ha, fun dx h1 h2 => ?_⟩⟩
  refine ⟨z, rfl, .ref a, rfl, a, C, rfl, T, n2, .inr ⟨dx, _, upd_same, by rw [upd_ne h2, upd_same], Nat.le_of_ble_eq_true rfl, ?_⟩⟩
  exact q dx _ h1 h2 (by rw [upd_ne (Ne.symm h2), upd_same]) (by rw [upd_same]; rfl) fun b b1 b2 => by rw [upd_ne b2, upd_ne b1, upd_ne b2]
theorem I_InvalidText (T : Txt K mg) : RaiseF P w K mg base 1 "InvalidText" ["line", "word"] := by
  obtain ⟨C, fI, fd, h1, h2, h3, h4, h5, h6, h7⟩ := T.i_InvalidText
  exact ⟨C, fI, fd, h1, h2, h3, h4, oi_InvalidText h2 h6 h7 h5, h5.binds (ps := ["self", "line", "word"]) fun _ _ _ _ _ _ us hl => match us, hl with | [_, _, _], _ => rfl⟩
theorem sc_law_fault : FnScope ["_law_h", "_law_rows", "_law_heaps_here", "_law_plan", "_law_kind", "_law_size", "_law_bad", "_law_spot", "_law_words", "_law_x", "_law_heads", "_law_one", "_law_turns"] ["_law_h", "_law_rows", "_law_heaps_here", "_law_plan"] (defScope (top 29)) := ⟨rfl, rfl, rfl, by decide +kernel, rfl, by decide +kernel, by decide +kernel⟩
theorem ok_law_fault (T : Txt K mg) {f : Addr} {fd : FuncData} (F : Fun K "_law_fault" "_law_fault" (top 29) f fd) : FnOk P w K mg base (L2.CX P w) 2 f fd ["_law_h", "_law_rows", "_law_heaps_here", "_law_plan"] (spOfR mg 3 sp_law_fault) := by
  refine def_okR (k := 1) F sc_law_fault (by decide) (by decide) fun cdv A outer s H E a => ⟨w_law_fault, ?_, pure_law_fault⟩
  exact (sss_cons (ss_set 4 a (se_draw 0 a (D_law_next T) (by decide) se_int))
    (sss_cons (ss_set 5 a (se_fb f_len T.b_len bb_len (sa_cons (se_v 2) sa_nil)))
    (sss_cons (ss_set 6 a (se_ix (se_o (so_lst (sa_cons se_str (sa_cons se_str (sa_cons se_str (sa_cons se_str (sa_cons se_str (sa_cons se_str (sa_cons (se_ft f_str T.b_str bt_str (sa_cons (se_op o_add (se_op o_pow se_int se_int) se_int) sa_nil)) sa_nil))))))))) (se_draw 0 a (D_law_next T) (by decide) se_int)))
    (sss_cons (ss_if (st_cmp (o_eq a) (se_v 4) se_int) (sss_cons (ss_set 7 a (se_draw 0 a (D_law_next T) (by decide) (se_v 5)))
    (sss_cons (ss_setLc 8 (own := [("_law_x", 9)]) a (si_t (se_v 2)) (by kernel_rfl) (fun _ _ _ _ _ => (sg_n 9 a.nd)) (fun _ _ _ _ _ a1 => sts_nil) (fun _ _ _ _ _ a1 => (se_ft f_str T.b_str bt_str (sa_cons (se_v 9) sa_nil))) (by decide))
    (sss_cons (ss_own 10 a (so_lst (sa_cons (se_o (so_lst (sa_cons (se_op o_add se_str (se_join se_str (se_v 8))) (sa_cons se_int sa_nil)))) (sa_cons (se_o (so_lst (sa_cons se_str (sa_cons se_int sa_nil)))) (sa_cons (se_o (so_lst (sa_cons (se_op o_add se_str (se_ix (se_v 8) se_int)) (sa_cons se_int sa_nil)))) (sa_cons (se_o (so_lst (sa_cons se_str (sa_cons se_int sa_nil)))) (sa_cons (se_o (so_lst (sa_cons se_str (sa_cons se_int sa_nil)))) sa_nil)))))))
    (sss_cons (ss_own 10 a (so_catV 10 (se_o (so_lst (sa_cons (se_o (so_lst (sa_cons (se_op o_add se_str (se_op o_mulT se_str (se_v 5))) (sa_cons (se_op o_add (se_v 5) se_int) sa_nil)))) (sa_cons (se_o (so_lst (sa_cons (se_op o_add se_str (se_op o_mulT se_str se_int)) (sa_cons se_int sa_nil)))) (sa_cons (se_o (so_lst (sa_cons (se_op o_add se_str (se_op o_mulT se_str se_int)) (sa_cons se_int sa_nil)))) sa_nil)))))))
    (sss_cons (ss_app 10 (se_o (so_lst (sa_cons (se_join se_str (se_op o_add (se_op o_add (se_op o_add (se_o (so_lst (sa_cons se_str sa_nil))) (se_o (so_sl (se_v 8) sp_none (sp_some (se_v 7))))) (se_o (so_lst (sa_cons (se_v 6) sa_nil)))) (se_o (so_sl (se_v 8) (sp_some (se_op o_add (se_v 7) se_int)) sp_none)))) (sa_cons (se_op o_add (se_v 7) se_int) sa_nil)))))
    (sss_cons (ss_set 11 a (se_ixV 10 (se_draw 0 a (D_law_next T) (by decide) (se_fb f_len T.b_len bb_len (sa_cons (se_v 10) sa_nil)))))
    (sss_one (ss_ret (se_o (so_lst (sa_cons (se_op o_add (se_o (so_lst (sa_cons (se_ix (se_v 11) se_int) sa_nil))) (se_o (so_sl (se_v 1) (sp_some se_int) sp_none))) (sa_cons se_int (sa_cons (se_ix (se_v 11) se_int) sa_nil))))))))))))) sss_nil)
    (sss_cons (ss_set 7 a (se_op o_add se_int (se_draw 0 a (D_law_next T) (by decide) (se_fb f_len T.b_len bb_len (sa_cons (se_v 1) sa_nil)))))
    (sss_cons (ss_if (st_cmp (o_eq a) (se_v 4) se_int) (sss_one (ss_ret (se_o (so_lst (sa_cons (se_op o_add (se_op o_add (se_o (so_sl (se_v 1) sp_none (sp_some (se_v 7)))) (se_o (so_lst (sa_cons (se_ix (se_o (so_lst (sa_cons se_str (sa_cons se_str sa_nil)))) (se_draw 0 a (D_law_next T) (by decide) se_int)) sa_nil)))) (se_o (so_sl (se_v 1) (sp_some (se_v 7)) sp_none))) (sa_cons (se_op o_add (se_v 7) se_int) (sa_cons se_int sa_nil))))))) sss_nil)
    (sss_cons (ss_own 12 a (so_lst (sa_cons (se_o (so_lst (sa_cons se_str (sa_cons se_int sa_nil)))) (sa_cons (se_o (so_lst (sa_cons se_str (sa_cons se_int sa_nil)))) (sa_cons (se_o (so_lst (sa_cons se_str (sa_cons se_int sa_nil)))) (sa_cons (se_o (so_lst (sa_cons se_str (sa_cons se_int sa_nil)))) (sa_cons (se_o (so_lst (sa_cons se_str (sa_cons se_int sa_nil)))) (sa_cons (se_o (so_lst (sa_cons se_str (sa_cons se_int sa_nil)))) sa_nil))))))))
    (sss_cons (ss_own 12 a (so_catV 12 (se_o (so_lst (sa_cons (se_o (so_lst (sa_cons (se_op o_add (se_op o_add se_str (se_ft f_str T.b_str bt_str (sa_cons (se_v 5) sa_nil))) se_str) (sa_cons se_int sa_nil)))) (sa_cons (se_o (so_lst (sa_cons (se_op o_add se_str (se_ft f_str T.b_str bt_str (sa_cons (se_v 5) sa_nil))) (sa_cons se_int sa_nil)))) (sa_cons (se_o (so_lst (sa_cons (se_op o_add (se_op o_add se_str (se_v 6)) se_str) (sa_cons se_int sa_nil)))) sa_nil)))))))
    (sss_cons (ss_own 12 a (so_catV 12 (se_o (so_lst (sa_cons (se_o (so_lst (sa_cons se_str (sa_cons se_int sa_nil)))) (sa_cons (se_o (so_lst (sa_cons se_str (sa_cons se_int sa_nil)))) (sa_cons (se_o (so_lst (sa_cons se_str (sa_cons se_int sa_nil)))) (sa_cons (se_o (so_lst (sa_cons se_str (sa_cons se_int sa_nil)))) sa_nil))))))))
    (sss_cons (ss_if (st_cmp (o_in a) (se_v 6) (se_o (so_lst (sa_cons se_str (sa_cons se_str sa_nil))))) (sss_one (ss_app 12 (se_o (so_lst (sa_cons (se_op o_add se_str (se_v 6)) (sa_cons se_int sa_nil)))))) sss_nil)
    (sss_cons (ss_set 11 a (se_ixV 12 (se_draw 0 a (D_law_next T) (by decide) (se_fb f_len T.b_len bb_len (sa_cons (se_v 12) sa_nil)))))
    (sss_one (ss_ret (se_o (so_lst (sa_cons (se_op o_add (se_op o_add (se_o (so_sl (se_v 1) sp_none (sp_some (se_v 7)))) (se_o (so_lst (sa_cons (se_ix (se_v 11) se_int) sa_nil)))) (se_o (so_sl (se_v 1) (sp_some (se_v 7)) sp_none))) (sa_cons (se_op o_add (se_v 7) se_int) (sa_cons (se_ix (se_v 11) se_int) sa_nil))))))))))))))))))
theorem D_law_fault (T : Txt K mg) : Def P w K mg base 2 "_law_fault" 4 (spOfR mg 3 sp_law_fault) := by
  obtain ⟨f, fd, F, hm⟩ := T.f_law_fault
  exact ⟨f, fd, _, ok_law_fault T F, hm, F.kp, F.binds (ps := ["_law_h", "_law_rows", "_law_heaps_here", "_law_plan"]) fun _ _ _ _ _ _ us hl => match us, hl with | [_, _, _, _], _ => rfl, rfl⟩
theorem sc_law_heaps : FnScope ["_law_h", "_law_least", "_law_most", "_law_size", "_law_far", "_law_part", "_law_found", "_law_k"] ["_law_h", "_law_least", "_law_most"] (defScope (top 25)) := ⟨rfl, rfl, rfl, by decide +kernel, rfl, by decide +kernel, by decide +kernel⟩
theorem ok_law_heaps (T : Txt K mg) {f : Addr} {fd : FuncData} (F : Fun K "_law_heaps" "_law_heaps" (top 25) f fd) : FnOk P w K mg base (L2.CX P w) 2 f fd ["_law_h", "_law_least", "_law_most"] (spOfR mg 2 sp_law_heaps) := by
  refine def_okR (k := 1) F sc_law_heaps (by decide) (by decide) fun cdv A outer s H E a => ⟨w_law_heaps, ?_, pure_law_heaps⟩
  exact (sss_cons (ss_set 3 a (se_op o_add (se_v 1) (se_draw 0 a (D_law_next T) (by decide) (se_op o_add (se_op o_sub (se_v 2) (se_v 1)) se_int))))
    (sss_cons (ss_set 4 a (se_ix (se_o (so_lst (sa_cons se_int (sa_cons se_int (sa_cons se_int (sa_cons (se_op o_pow se_int se_int) (sa_cons (se_op o_pow se_int se_int) sa_nil))))))) (se_draw 0 a (D_law_next T) (by decide) se_int)))
    (sss_cons (ss_set 5 a (se_ix (se_o (so_lst (sa_cons se_int (sa_cons se_int (sa_cons se_int (sa_cons se_int (sa_cons se_int sa_nil))))))) (se_draw 0 a (D_law_next T) (by decide) se_int)))
    (sss_cons (ss_setLcO 6 (own := [("_law_k", 7)]) a (si_r1 T.b_range (sa_cons (se_v 3) sa_nil)) (by kernel_rfl) (fun _ _ _ _ _ => (sg_n 7 a.nd)) (fun _ _ _ _ _ a1 => sts_nil) (fun _ _ _ _ _ a1 => (se_op o_mul (se_v 5) (se_draw 0 a1 (D_law_next T) (by decide) (se_v 4)))) (by decide))
    (sss_cons (ss_if (st_cmp (o_eq a) (se_fb (f_max a) T.b_max bb_max (sa_cons (se_v 6) sa_nil)) se_int) (sss_one (ss_setI 6 (se_v 5) (se_draw 0 a (D_law_next T) (by decide) (se_v 3)))) sss_nil)
    (sss_one (ss_ret (se_ft f_tuple T.b_tuple bt_tuple (sa_cons (se_v 6) sa_nil)))))))))
theorem D_law_heaps (T : Txt K mg) : Def P w K mg base 2 "_law_heaps" 3 (spOfR mg 2 sp_law_heaps) := by
  obtain ⟨f, fd, F, hm⟩ := T.f_law_heaps
  exact ⟨f, fd, _, ok_law_heaps T F, hm, F.kp, F.binds (ps := ["_law_h", "_law_least", "_law_most"]) fun _ _ _ _ _ _ us hl => match us, hl with | [_, _, _], _ => rfl, rfl⟩
theorem sc_law_pairs : FnScope ["_law_size", "_law_found", "_law_one", "_law_other"] ["_law_size"] (defScope (top 28)) := ⟨rfl, rfl, rfl, by decide +kernel, rfl, by decide +kernel, by decide +kernel⟩
theorem ok_law_pairs (T : Txt K mg) {f : Addr} {fd : FuncData} (F : Fun K "_law_pairs" "_law_pairs" (top 28) f fd) : FnOk P w K mg base (L2.CX P w) 1 f fd ["_law_size"] (spOf mg 1 sp_law_pairs) := by
  refine def_ok (k := 0) F sc_law_pairs fun cdv A outer s H E a => ⟨w_law_pairs, ?_, pure_law_pairs⟩
  exact (sss_cons (ss_set 1 a (se_o (so_lst sa_nil)))
    (sss_cons (ss_for a (si_r1 T.b_range (sa_cons (se_v 0) sa_nil)) (sg_n 2 a.nd) (sss_one (ss_set 1 a (se_op o_add (se_v 1) (se_o (so_lc (own := [("_law_other", 3)]) a (si_r1 T.b_range (sa_cons (se_v 0) sa_nil)) (by kernel_rfl) (fun _ _ _ _ _ => (sg_n 3 a.nd)) (fun _ _ _ _ _ a1 => (sts_one (st_cmp (o_ne a1) (se_v 3) (se_v 2)))) (fun _ _ _ _ _ a1 => (se_tup (sa_cons (se_v 2) (sa_cons (se_v 3) sa_nil)))) (by decide)))))))
    (sss_one (ss_ret (se_v 1)))))
theorem D_law_pairs (T : Txt K mg) : Def P w K mg base 1 "_law_pairs" 1 (spOf mg 1 sp_law_pairs) := by
  obtain ⟨f, fd, F, hm⟩ := T.f_law_pairs
  exact ⟨f, fd, _, ok_law_pairs T F, hm, F.kp, F.binds (ps := ["_law_size"]) fun _ _ _ _ _ _ us hl => match us, hl with | [_], _ => rfl, rfl⟩
theorem sc_number_at : FnScope ["words", "line", "place", "most", "word", "fine", "sign"] ["words", "line", "place", "most"] (defScope (top 18)) := ⟨rfl, rfl, rfl, by decide +kernel, rfl, by decide +kernel, by decide +kernel⟩
theorem ok_number_at (T : Txt K mg) {f : Addr} {fd : FuncData} (F : Fun K "number_at" "number_at" (top 18) f fd) : FnOk P w K mg base (L2.CX P w) 3 f fd ["words", "line", "place", "most"] (spOf mg 4 sp_number_at) := by
  refine def_ok (k := 2) F sc_number_at fun cdv A outer s H E a => ⟨w_number_at, ?_, pure_number_at⟩
  exact (sss_cons (ss_if (st_cmp o_ge (se_v 2) (se_fb f_len T.b_len bb_len (sa_cons (se_v 0) sa_nil))) (sss_one (ss_raiseF a (I_InvalidText T) (by decide) (sa_cons (se_v 1) (sa_cons (se_op o_add (se_v 2) se_int) sa_nil)))) sss_nil)
    (sss_cons (ss_set 4 a (se_ix (se_v 0) (se_v 2)))
    (sss_cons (ss_set 5 a (se_and (se_cmp o_le (se_fb f_len T.b_len bb_len (sa_cons (se_v 4) sa_nil)) (se_gi T.c_MOST_FIGURES.choose_spec)) (se_one (se_or (se_cmp (o_ne a) (se_ix (se_v 4) se_int) se_str) (se_one (se_cmp (o_eq a) (se_v 4) se_str))))))
    (sss_cons (ss_for a (si_s (se_v 4)) (sg_n 6 a.nd) (sss_one (ss_if (st_cmp o_signNotIn (se_v 6) se_str) (sss_one (ss_set 5 a se_bl)) sss_nil)))
    (sss_cons (ss_if (st_w (sw_or (st_not (st_b (se_v 5))) (sw_or1 (st_cmp o_gt (se_ft f_intS T.b_int bt_int (sa_cons (se_v 4) sa_nil)) (se_v 3))))) (sss_one (ss_raiseF a (I_InvalidText T) (by decide) (sa_cons (se_v 1) (sa_cons (se_op o_add (se_v 2) se_int) sa_nil)))) sss_nil)
    (sss_one (ss_ret (se_ft f_intS T.b_int bt_int (sa_cons (se_v 4) sa_nil)))))))))
theorem D_number_at (T : Txt K mg) : Def P w K mg base 3 "number_at" 4 (spOf mg 4 sp_number_at) := by
  obtain ⟨f, fd, F, hm⟩ := T.f_number_at
  exact ⟨f, fd, _, ok_number_at T F, hm, F.kp, F.binds (ps := ["words", "line", "place", "most"]) fun _ _ _ _ _ _ us hl => match us, hl with | [_, _, _, _], _ => rfl, rfl⟩
theorem sc_read_heaps : FnScope ["words", "found", "place"] ["words"] (defScope (top 19)) := ⟨rfl, rfl, rfl, by decide +kernel, rfl, by decide +kernel, by decide +kernel⟩
theorem ok_read_heaps (T : Txt K mg) {f : Addr} {fd : FuncData} (F : Fun K "read_heaps" "read_heaps" (top 19) f fd) : FnOk P w K mg base (L2.CX P w) 4 f fd ["words"] (spOf mg 1 sp_read_heaps) := by
  refine def_ok (k := 3) F sc_read_heaps fun cdv A outer s H E a => ⟨w_read_heaps, ?_, pure_read_heaps⟩
  exact (sss_cons (ss_if (st_cmp (o_ne a) (se_o (so_sl (se_v 0) sp_none (sp_some se_int))) (se_o (so_lst (sa_cons se_str sa_nil)))) (sss_one (ss_raiseF a (I_InvalidText T) (by decide) (sa_cons se_int (sa_cons se_int sa_nil)))) sss_nil)
    (sss_cons (ss_own 1 a (so_lst sa_nil))
    (sss_cons (ss_for a (si_r2 T.b_range (sa_cons se_int (sa_cons (se_fb (f_max2 a) T.b_max bb_max (sa_cons (se_fb f_len T.b_len bb_len (sa_cons (se_v 0) sa_nil)) (sa_cons (se_op o_add (se_gi T.c_LEAST_HEAPS.choose_spec) se_int) sa_nil))) sa_nil))) (sg_n 2 a.nd) (sss_cons (ss_if (st_cmp o_gt (se_v 2) (se_gi T.c_MOST_HEAPS.choose_spec)) (sss_one (ss_raiseF a (I_InvalidText T) (by decide) (sa_cons se_int (sa_cons (se_op o_add (se_v 2) se_int) sa_nil)))) sss_nil)
    (sss_one (ss_app 1 (se_call a (D_number_at T) (by decide) (sa_cons (se_v 0) (sa_cons se_int (sa_cons (se_v 2) (sa_cons (se_gi T.c_MOST_IN_HEAP.choose_spec) sa_nil)))))))))
    (sss_cons (ss_if (st_cmp (o_eq a) (se_fb (f_max a) T.b_max bb_max (sa_cons (se_v 1) sa_nil)) se_int) (sss_one (ss_raiseF a (I_InvalidText T) (by decide) (sa_cons se_int (sa_cons (se_fb f_len T.b_len bb_len (sa_cons (se_v 0) sa_nil)) sa_nil)))) sss_nil)
    (sss_one (ss_ret (se_ft f_tuple T.b_tuple bt_tuple (sa_cons (se_v 1) sa_nil))))))))
theorem D_read_heaps (T : Txt K mg) : Def P w K mg base 4 "read_heaps" 1 (spOf mg 1 sp_read_heaps) := by
  obtain ⟨f, fd, F, hm⟩ := T.f_read_heaps
  exact ⟨f, fd, _, ok_read_heaps T F, hm, F.kp, F.binds (ps := ["words"]) fun _ _ _ _ _ _ us hl => match us, hl with | [_], _ => rfl, rfl⟩
theorem sc_read_step : FnScope ["words", "line", "count", "one", "other"] ["words", "line", "count"] (defScope (top 20)) := ⟨rfl, rfl, rfl, by decide +kernel, rfl, by decide +kernel, by decide +kernel⟩
theorem ok_read_step (T : Txt K mg) {f : Addr} {fd : FuncData} (F : Fun K "read_step" "read_step" (top 20) f fd) : FnOk P w K mg base (L2.CX P w) 4 f fd ["words", "line", "count"] (spOf mg 3 sp_read_step) := by
  refine def_ok (k := 3) F sc_read_step fun cdv A outer s H E a => ⟨w_read_step, ?_, pure_read_step⟩
  exact (sss_cons (ss_if (st_cmp (o_ne a) (se_o (so_sl (se_v 0) sp_none (sp_some se_int))) (se_o (so_lst (sa_cons se_str sa_nil)))) (sss_one (ss_raiseF a (I_InvalidText T) (by decide) (sa_cons (se_v 1) (sa_cons se_int sa_nil)))) sss_nil)
    (sss_cons (ss_set 3 a (se_call a (D_number_at T) (by decide) (sa_cons (se_v 0) (sa_cons (se_v 1) (sa_cons se_int (sa_cons (se_op o_sub (se_v 2) se_int) sa_nil))))))
    (sss_cons (ss_set 4 a (se_call a (D_number_at T) (by decide) (sa_cons (se_v 0) (sa_cons (se_v 1) (sa_cons se_int (sa_cons (se_op o_sub (se_v 2) se_int) sa_nil))))))
    (sss_cons (ss_if (st_cmp (o_eq a) (se_v 3) (se_v 4)) (sss_one (ss_raiseF a (I_InvalidText T) (by decide) (sa_cons (se_v 1) (sa_cons se_int sa_nil)))) sss_nil)
    (sss_cons (ss_if (st_cmp o_gt (se_fb f_len T.b_len bb_len (sa_cons (se_v 0) sa_nil)) se_int) (sss_one (ss_raiseF a (I_InvalidText T) (by decide) (sa_cons (se_v 1) (sa_cons se_int sa_nil)))) sss_nil)
    (sss_one (ss_ret (se_tup (sa_cons (se_v 3) (sa_cons (se_v 4) sa_nil))))))))))
theorem D_read_step (T : Txt K mg) : Def P w K mg base 4 "read_step" 3 (spOf mg 3 sp_read_step) := by
  obtain ⟨f, fd, F, hm⟩ := T.f_read_step
  exact ⟨f, fd, _, ok_read_step T F, hm, F.kp, F.binds (ps := ["words", "line", "count"]) fun _ _ _ _ _ _ us hl => match us, hl with | [_, _, _], _ => rfl, rfl⟩
theorem sc_read_plan : FnScope ["text", "rows", "word", "line", "heaps", "found", "index", "words"] ["text"] (defScope (top 21)) := ⟨rfl, rfl, rfl, by decide +kernel, rfl, by decide +kernel, by decide +kernel⟩
theorem ok_read_plan (T : Txt K mg) {f : Addr} {fd : FuncData} (F : Fun K "read_plan" "read_plan" (top 21) f fd) : FnOk P w K mg base (L2.CX P w) 5 f fd ["text"] (spOf mg 1 sp_read_plan) := by
  refine def_ok (k := 4) F sc_read_plan fun cdv A outer s H E a => ⟨w_read_plan, ?_, pure_read_plan⟩
  exact (sss_cons (ss_setLc 1 (own := [("line", 3)]) a (si_l (se_o (so_split (se_v 0) se_str))) (by kernel_rfl) (fun _ _ _ _ _ => (sg_n 3 a.nd)) (fun _ _ _ _ _ a1 => sts_nil) (fun _ _ _ _ _ a1 => (se_o (so_lc (own := [("word", 2)]) a1 (si_l (se_o (so_split (se_v 3) se_str))) (by kernel_rfl) (fun _ _ _ _ _ => (sg_n 2 a1.nd)) (fun _ _ _ _ _ a2 => (sts_one (st_cmp (o_ne a2) (se_v 2) se_str))) (fun _ _ _ _ _ a2 => (se_v 2)) (by decide)))) (by decide))
    (sss_cons (ss_set 4 a (se_call a (D_read_heaps T) (by decide) (sa_cons (se_ix (se_v 1) se_int) sa_nil)))
    (sss_cons (ss_own 5 a (so_lst sa_nil))
    (sss_cons (ss_for a (si_enL a T.b_enumerate (se_o (so_sl (se_v 1) (sp_some se_int) sp_none))) (sg_t rfl (sgs_cons (sg_n 6 a.nd) (sgs_cons (sg_n 7 a.nd) sgs_nil))) (sss_cons (ss_if (st_cmp (o_eq a) (se_fb f_len T.b_len bb_len (sa_cons (se_v 5) sa_nil)) (se_gi T.c_MOST_STEPS.choose_spec)) (sss_one (ss_raiseF a (I_InvalidText T) (by decide) (sa_cons (se_op o_add (se_v 6) se_int) (sa_cons se_int sa_nil)))) sss_nil)
    (sss_one (ss_app 5 (se_call a (D_read_step T) (by decide) (sa_cons (se_v 7) (sa_cons (se_op o_add (se_v 6) se_int) (sa_cons (se_fb f_len T.b_len bb_len (sa_cons (se_v 4) sa_nil)) sa_nil))))))))
    (sss_one (ss_ret (se_tup (sa_cons (se_v 4) (sa_cons (se_ft f_tuple T.b_tuple bt_tuple (sa_cons (se_v 5) sa_nil)) sa_nil)))))))))
theorem D_read_plan (T : Txt K mg) : Def P w K mg base 5 "read_plan" 1 (spOf mg 1 sp_read_plan) := by
  obtain ⟨f, fd, F, hm⟩ := T.f_read_plan
  exact ⟨f, fd, _, ok_read_plan T F, hm, F.kp, F.binds (ps := ["text"]) fun _ _ _ _ _ _ us hl => match us, hl with | [_], _ => rfl, rfl⟩
theorem sc_is_integer : FnScope ["value"] ["value"] (defScope (top 10)) := ⟨rfl, rfl, rfl, by decide +kernel, rfl, by decide +kernel, by decide +kernel⟩
theorem ok_is_integer (T : Txt K mg) {f : Addr} {fd : FuncData} (F : Fun K "is_integer" "is_integer" (top 10) f fd) : FnOk P w K mg base (L2.CX P w) 1 f fd ["value"] (spOf mg 1 sp_is_integer) := by
  refine def_ok (k := 0) F sc_is_integer fun cdv A outer s H E a => ⟨w_is_integer, ?_, pure_is_integer⟩
  exact (sss_one (ss_ret (se_and (se_isi (T := "int") (se_v 0) T.b_isinstance T.b_int bt_int rfl) (se_one (se_not (se_isi (T := "bool") (se_v 0) T.b_isinstance T.b_bool bt_bool rfl))))))
theorem D_is_integer (T : Txt K mg) : Def P w K mg base 1 "is_integer" 1 (spOf mg 1 sp_is_integer) := by
  obtain ⟨f, fd, F, hm⟩ := T.f_is_integer
  exact ⟨f, fd, _, ok_is_integer T F, hm, F.kp, F.binds (ps := ["value"]) fun _ _ _ _ _ _ us hl => match us, hl with | [_], _ => rfl, rfl⟩
theorem sc_is_from : FnScope ["value", "low", "high"] ["value", "low", "high"] (defScope (top 11)) := ⟨rfl, rfl, rfl, by decide +kernel, rfl, by decide +kernel, by decide +kernel⟩
theorem ok_is_from (T : Txt K mg) {f : Addr} {fd : FuncData} (F : Fun K "is_from" "is_from" (top 11) f fd) : FnOk P w K mg base (L2.CX P w) 2 f fd ["value", "low", "high"] (spOf mg 3 sp_is_from) := by
  refine def_ok (k := 1) F sc_is_from fun cdv A outer s H E a => ⟨w_is_from, ?_, pure_is_from⟩
  exact (sss_one (ss_ret (se_and (se_call a (D_is_integer T) (by decide) (sa_cons (se_v 0) sa_nil)) (se_one (se_chain o_le o_le (se_v 1) (se_v 0) (se_v 2))))))
theorem D_is_from (T : Txt K mg) : Def P w K mg base 2 "is_from" 3 (spOf mg 3 sp_is_from) := by
  obtain ⟨f, fd, F, hm⟩ := T.f_is_from
  exact ⟨f, fd, _, ok_is_from T F, hm, F.kp, F.binds (ps := ["value", "low", "high"]) fun _ _ _ _ _ _ us hl => match us, hl with | [_, _, _], _ => rfl, rfl⟩
theorem sc_check_heaps : FnScope ["value", "heap"] ["value"] (defScope (top 12)) := ⟨rfl, rfl, rfl, by decide +kernel, rfl, by decide +kernel, by decide +kernel⟩
theorem ok_check_heaps (T : Txt K mg) {f : Addr} {fd : FuncData} (F : Fun K "check_heaps" "check_heaps" (top 12) f fd) : FnOk P w K mg base (L2.CX P w) 3 f fd ["value"] (spOf mg 1 sp_check_heaps) := by
  refine def_ok (k := 2) F sc_check_heaps fun cdv A outer s H E a => ⟨w_check_heaps, ?_, pure_check_heaps⟩
  exact (sss_cons (ss_if (st_w (sw_or (st_not (st_b (se_isi (T := "tuple") (se_v 0) T.b_isinstance T.b_tuple bt_tuple rfl))) (sw_or1 (st_not (st_chain o_le o_le (se_gi T.c_LEAST_HEAPS.choose_spec) (se_fb f_len T.b_len bb_len (sa_cons (se_v 0) sa_nil)) (se_gi T.c_MOST_HEAPS.choose_spec)))))) (sss_one (ss_raise a T.r_BadHeaps)) sss_nil)
    (sss_cons (ss_for a (si_t (se_v 0)) (sg_n 1 a.nd) (sss_one (ss_if (st_not (st_b (se_call a (D_is_from T) (by decide) (sa_cons (se_v 1) (sa_cons se_int (sa_cons (se_gi T.c_MOST_IN_HEAP.choose_spec) sa_nil)))))) (sss_one (ss_raise a T.r_BadHeaps)) sss_nil)))
    (sss_one (ss_if (st_cmp (o_eq a) (se_fb (f_max a) T.b_max bb_max (sa_cons (se_v 0) sa_nil)) se_int) (sss_one (ss_raise a T.r_BadHeaps)) sss_nil))))
theorem D_check_heaps (T : Txt K mg) : Def P w K mg base 3 "check_heaps" 1 (spOf mg 1 sp_check_heaps) := by
  obtain ⟨f, fd, F, hm⟩ := T.f_check_heaps
  exact ⟨f, fd, _, ok_check_heaps T F, hm, F.kp, F.binds (ps := ["value"]) fun _ _ _ _ _ _ us hl => match us, hl with | [_], _ => rfl, rfl⟩
theorem sc_is_step : FnScope ["value", "count"] ["value", "count"] (defScope (top 13)) := ⟨rfl, rfl, rfl, by decide +kernel, rfl, by decide +kernel, by decide +kernel⟩
theorem ok_is_step (T : Txt K mg) {f : Addr} {fd : FuncData} (F : Fun K "is_step" "is_step" (top 13) f fd) : FnOk P w K mg base (L2.CX P w) 3 f fd ["value", "count"] (spOf mg 2 sp_is_step) := by
  refine def_ok (k := 2) F sc_is_step fun cdv A outer s H E a => ⟨w_is_step, ?_, pure_is_step⟩
  exact (sss_cons (ss_if (st_w (sw_or (st_not (st_b (se_isi (T := "tuple") (se_v 0) T.b_isinstance T.b_tuple bt_tuple rfl))) (sw_or1 (st_cmp (o_ne a) (se_fb f_len T.b_len bb_len (sa_cons (se_v 0) sa_nil)) se_int)))) (sss_one (ss_ret se_bl)) sss_nil)
    (sss_cons (ss_if (st_w (sw_or (st_not (st_b (se_call a (D_is_from T) (by decide) (sa_cons (se_ix (se_v 0) se_int) (sa_cons se_int (sa_cons (se_op o_sub (se_v 1) se_int) sa_nil)))))) (sw_or1 (st_not (st_b (se_call a (D_is_from T) (by decide) (sa_cons (se_ix (se_v 0) se_int) (sa_cons se_int (sa_cons (se_op o_sub (se_v 1) se_int) sa_nil))))))))) (sss_one (ss_ret se_bl)) sss_nil)
    (sss_one (ss_ret (se_cmp (o_ne a) (se_ix (se_v 0) se_int) (se_ix (se_v 0) se_int))))))
theorem D_is_step (T : Txt K mg) : Def P w K mg base 3 "is_step" 2 (spOf mg 2 sp_is_step) := by
  obtain ⟨f, fd, F, hm⟩ := T.f_is_step
  exact ⟨f, fd, _, ok_is_step T F, hm, F.kp, F.binds (ps := ["value", "count"]) fun _ _ _ _ _ _ us hl => match us, hl with | [_, _], _ => rfl, rfl⟩
theorem sc_check_plan : FnScope ["heaps", "plan", "index", "step"] ["heaps", "plan"] (defScope (top 14)) := ⟨rfl, rfl, rfl, by decide +kernel, rfl, by decide +kernel, by decide +kernel⟩
theorem ok_check_plan (T : Txt K mg) {f : Addr} {fd : FuncData} (F : Fun K "check_plan" "check_plan" (top 14) f fd) : FnOk P w K mg base (L2.CX P w) 4 f fd ["heaps", "plan"] (spOf mg 2 sp_check_plan) := by
  refine def_ok (k := 3) F sc_check_plan fun cdv A outer s H E a => ⟨w_check_plan, ?_, pure_check_plan⟩
  exact (sss_cons (ss_expr (se_call a (D_check_heaps T) (by decide) (sa_cons (se_v 0) sa_nil)))
    (sss_cons (ss_if (st_w (sw_or (st_not (st_b (se_isi (T := "tuple") (se_v 1) T.b_isinstance T.b_tuple bt_tuple rfl))) (sw_or1 (st_cmp o_gt (se_fb f_len T.b_len bb_len (sa_cons (se_v 1) sa_nil)) (se_gi T.c_MOST_STEPS.choose_spec))))) (sss_one (ss_raiseF a (I_BadPlan T) (by decide) (sa_cons se_non sa_nil))) sss_nil)
    (sss_one (ss_for a (si_enT a T.b_enumerate (se_v 1)) (sg_t rfl (sgs_cons (sg_n 2 a.nd) (sgs_cons (sg_n 3 a.nd) sgs_nil))) (sss_one (ss_if (st_not (st_b (se_call a (D_is_step T) (by decide) (sa_cons (se_v 3) (sa_cons (se_fb f_len T.b_len bb_len (sa_cons (se_v 0) sa_nil)) sa_nil))))) (sss_one (ss_raiseF a (I_BadPlan T) (by decide) (sa_cons (se_v 2) sa_nil))) sss_nil))))))
theorem D_check_plan (T : Txt K mg) : Def P w K mg base 4 "check_plan" 2 (spOf mg 2 sp_check_plan) := by
  obtain ⟨f, fd, F, hm⟩ := T.f_check_plan
  exact ⟨f, fd, _, ok_check_plan T F, hm, F.kp, F.binds (ps := ["heaps", "plan"]) fun _ _ _ _ _ _ us hl => match us, hl with | [_, _], _ => rfl, rfl⟩
theorem sc_write_plan : FnScope ["heaps", "plan", "lines", "heap", "one", "other"] ["heaps", "plan"] (defScope (top 17)) := ⟨rfl, rfl, rfl, by decide +kernel, rfl, by decide +kernel, by decide +kernel⟩
theorem ok_write_plan (T : Txt K mg) {f : Addr} {fd : FuncData} (F : Fun K "write_plan" "write_plan" (top 17) f fd) : FnOk P w K mg base (L2.CX P w) 5 f fd ["heaps", "plan"] (spOf mg 2 sp_write_plan) := by
  refine def_ok (k := 4) F sc_write_plan fun cdv A outer s H E a => ⟨w_write_plan, ?_, pure_write_plan⟩
  exact (sss_cons (ss_expr (se_call a (D_check_plan T) (by decide) (sa_cons (se_v 0) (sa_cons (se_v 1) sa_nil))))
    (sss_cons (ss_own 2 a (so_lst (sa_cons (se_join se_str (se_op o_add (se_o (so_lst (sa_cons se_str sa_nil))) (se_o (so_lc (own := [("heap", 3)]) a (si_t (se_v 0)) (by kernel_rfl) (fun _ _ _ _ _ => (sg_n 3 a.nd)) (fun _ _ _ _ _ a1 => sts_nil) (fun _ _ _ _ _ a1 => (se_ft f_str T.b_str bt_str (sa_cons (se_v 3) sa_nil))) (by decide))))) sa_nil)))
    (sss_cons (ss_ext 2 (se_o (so_lc (own := [("one", 4), ("other", 5)]) a (si_t (se_v 1)) (by kernel_rfl) (fun _ _ _ _ _ => (sg_t a.calm (sgs_cons (sg_n 4 a.nd) (sgs_cons (sg_n 5 a.nd) sgs_nil)))) (fun _ _ _ _ _ a2 => sts_nil) (fun _ _ _ _ _ a2 => (se_js (sj_cons se_str (sj_cons (se_fmt (se_v 4)) (sj_cons se_str (sj_cons (se_fmt (se_v 5)) sj_nil)))))) (by decide))))
    (sss_one (ss_ret (se_join se_str (se_v 2)))))))
theorem D_write_plan (T : Txt K mg) : Def P w K mg base 5 "write_plan" 2 (spOf mg 2 sp_write_plan) := by
  obtain ⟨f, fd, F, hm⟩ := T.f_write_plan
  exact ⟨f, fd, _, ok_write_plan T F, hm, F.kp, F.binds (ps := ["heaps", "plan"]) fun _ _ _ _ _ _ us hl => match us, hl with | [_, _], _ => rfl, rfl⟩
theorem sc_law : FnScope ["_law_script", "_law_h", "_law_heaps_here", "_law_pairs_here", "_law_plan", "_law_k", "_law_text", "_law_rows", "_law_line", "_law_word", "_law_told", "_law_row", "e"] ["_law_script"] (defScope (top 30)) := ⟨rfl, rfl, rfl, by decide +kernel, rfl, by decide +kernel, by decide +kernel⟩
theorem ok_law (T : Txt K mg) {f : Addr} {fd : FuncData} (F : Fun K "law" "law" (top 30) f fd) : FnOk P w K mg base (L2.CX P w) 6 f fd ["_law_script"] (spLaw K) := by
  refine law_ok (k := 5) (i := 1) (seed := 8) F sc_law (by decide) fun cdv A outer s H E a => ⟨_, _, _, w_law, rfl, ps_mix 1 a (D_law_mix T) (by decide), ?_, pure_law⟩
  exact (sss_cons (ss_set 2 a (se_callR 1 a (D_law_heaps T) (by decide) (sa_cons se_int (sa_cons se_int sa_nil))))
    (sss_cons (ss_set 3 a (se_call a (D_law_pairs T) (by decide) (sa_cons (se_fb f_len T.b_len bb_len (sa_cons (se_v 2) sa_nil)) sa_nil)))
    (sss_cons (ss_set 4 a (se_ft f_tuple T.b_tuple bt_tuple (sa_cons (se_o (so_lc (own := [("_law_k", 5)]) a (si_r1 T.b_range (sa_cons (se_draw 1 a (D_law_next T) (by decide) se_int) sa_nil)) (by kernel_rfl) (fun _ _ _ _ _ => (sg_n 5 a.nd)) (fun _ _ _ _ _ a1 => sts_nil) (fun _ _ _ _ _ a1 => (se_ix (se_v 3) (se_draw 1 a1 (D_law_next T) (by decide) (se_fb f_len T.b_len bb_len (sa_cons (se_v 3) sa_nil))))) (by decide))) sa_nil)))
    (sss_cons (ss_set 6 a (se_call a (D_write_plan T) (by decide) (sa_cons (se_v 2) (sa_cons (se_v 4) sa_nil))))
    (sss_cons (ss_asg (se_callR 1 a (D_law_fault T) (by decide) (sa_cons (se_o (so_split (se_v 6) se_str)) (sa_cons (se_v 2) (sa_cons (se_v 4) sa_nil)))) (sg_l rfl (sgs_cons (sg_n 7 a.nd) (sgs_cons (sg_n 8 a.nd) (sgs_cons (sg_n 9 a.nd) sgs_nil)))))
    (sss_cons (ss_set 10 a se_non)
    (sss_cons (ss_tryAs 12 a T.x_InvalidText.choose_spec.1 T.x_InvalidText.choose_spec.2.1 (fun _ _ _ a2 => (sss_one (ss_expr (se_call a2 (D_read_plan T) (by decide) (sa_cons (se_join se_str (se_o (so_lc (own := [("_law_row", 11)]) a2 (si_l (se_v 7)) (by kernel_rfl) (fun _ _ _ _ _ => (sg_n 11 a2.nd)) (fun _ _ _ _ _ a3 => sts_nil) (fun _ _ _ _ _ a3 => (se_v 11)) (by decide)))) sa_nil))))) (fun e oe d pn y A hz hvs hA hy => (sss_one (ss_setN 10 a.nd (se_if (st_b (se_xis 12 T.is_HeapError T.b_isinstance hz hvs hA)) (se_tup (sa_cons (se_xf 12 T.x_InvalidText.choose_spec.2.2.1 T.x_InvalidText.choose_spec.2.2.2.1 hz hvs hA T.x_InvalidText.choose_spec.1) (sa_cons (se_xf 12 T.x_InvalidText.choose_spec.2.2.1 T.x_InvalidText.choose_spec.2.2.2.2 hz hvs hA T.x_InvalidText.choose_spec.1) sa_nil))) se_non)))))
    (sss_one (ss_ret (se_and (se_cmp (o_eq a) (se_v 10) (se_tup (sa_cons (se_v 8) (sa_cons (se_v 9) sa_nil)))) (se_one (se_cmp (o_eq a) (se_call a (D_read_plan T) (by decide) (sa_cons (se_v 6) sa_nil)) (se_tup (sa_cons (se_v 2) (sa_cons (se_v 4) sa_nil)))))))))))))))
end
end Pu

namespace Pu
open PySem L2
theorem all_mk {P : Program} {w : World} {K : PySem.W.Frag} {h : Heap} {mg : Str → Option Value} {fa : Addr} (X : K.In h) (G : h.Ns mainGlobals mg) (hfa : mg "law" = some (.ref fa))
    {f_law_fault : Addr} {oc_law_fault kV_law_fault dc_law_fault pm_law_fault cd_law_fault ct_law_fault : Value} {od_law_fault an_law_fault : Option Addr} {sl_law_fault : Array (Option Value)}
    {f_law_heaps : Addr} {oc_law_heaps kV_law_heaps dc_law_heaps pm_law_heaps cd_law_heaps ct_law_heaps : Value} {od_law_heaps an_law_heaps : Option Addr} {sl_law_heaps : Array (Option Value)}
    {f_law_pairs : Addr} {oc_law_pairs kV_law_pairs dc_law_pairs pm_law_pairs cd_law_pairs ct_law_pairs : Value} {od_law_pairs an_law_pairs : Option Addr} {sl_law_pairs : Array (Option Value)}
    {f_number_at : Addr} {oc_number_at kV_number_at dc_number_at pm_number_at cd_number_at ct_number_at : Value} {od_number_at an_number_at : Option Addr} {sl_number_at : Array (Option Value)}
    {f_read_heaps : Addr} {oc_read_heaps kV_read_heaps dc_read_heaps pm_read_heaps cd_read_heaps ct_read_heaps : Value} {od_read_heaps an_read_heaps : Option Addr} {sl_read_heaps : Array (Option Value)}
    {f_read_step : Addr} {oc_read_step kV_read_step dc_read_step pm_read_step cd_read_step ct_read_step : Value} {od_read_step an_read_step : Option Addr} {sl_read_step : Array (Option Value)}
    {f_read_plan : Addr} {oc_read_plan kV_read_plan dc_read_plan pm_read_plan cd_read_plan ct_read_plan : Value} {od_read_plan an_read_plan : Option Addr} {sl_read_plan : Array (Option Value)}
    {f_is_integer : Addr} {oc_is_integer kV_is_integer dc_is_integer pm_is_integer cd_is_integer ct_is_integer : Value} {od_is_integer an_is_integer : Option Addr} {sl_is_integer : Array (Option Value)}
    {f_is_from : Addr} {oc_is_from kV_is_from dc_is_from pm_is_from cd_is_from ct_is_from : Value} {od_is_from an_is_from : Option Addr} {sl_is_from : Array (Option Value)}
    {f_check_heaps : Addr} {oc_check_heaps kV_check_heaps dc_check_heaps pm_check_heaps cd_check_heaps ct_check_heaps : Value} {od_check_heaps an_check_heaps : Option Addr} {sl_check_heaps : Array (Option Value)}
    {f_is_step : Addr} {oc_is_step kV_is_step dc_is_step pm_is_step cd_is_step ct_is_step : Value} {od_is_step an_is_step : Option Addr} {sl_is_step : Array (Option Value)}
    {f_check_plan : Addr} {oc_check_plan kV_check_plan dc_check_plan pm_check_plan cd_check_plan ct_check_plan : Value} {od_check_plan an_check_plan : Option Addr} {sl_check_plan : Array (Option Value)}
    {f_write_plan : Addr} {oc_write_plan kV_write_plan dc_write_plan pm_write_plan cd_write_plan ct_write_plan : Value} {od_write_plan an_write_plan : Option Addr} {sl_write_plan : Array (Option Value)}
    {f_law : Addr} {oc_law kV_law dc_law pm_law cd_law ct_law : Value} {od_law an_law : Option Addr} {sl_law : Array (Option Value)}
    {f_law_mix : Addr} {oc_law_mix kV_law_mix dc_law_mix pm_law_mix cd_law_mix ct_law_mix : Value} {od_law_mix an_law_mix : Option Addr} {sl_law_mix : Array (Option Value)}
    {f_law_next : Addr} {oc_law_next kV_law_next dc_law_next pm_law_next cd_law_next ct_law_next : Value} {od_law_next an_law_next : Option Addr} {sl_law_next : Array (Option Value)}
    {C_BadHeaps : Addr}
    {C_BadPlan : Addr}
    {C_HeapError : Addr}
    {C_InvalidText : Addr}
    {fi_BadPlan H_BadPlan N_BadPlan : Addr} {oc_BadPlan kV_BadPlan dc_BadPlan pm_BadPlan cd_BadPlan ct_BadPlan : Value} {od_BadPlan an_BadPlan dd_BadPlan : Option Addr} {sl_BadPlan : Array (Option Value)} {nm_BadPlan q_BadPlan : Str} {bs_BadPlan : List Value} {sn_BadPlan : List Str} {su_BadPlan : List Value} {ab_BadPlan : Bool} {co_BadPlan : Option Bool} {m0_BadPlan m1_BadPlan m2_BadPlan m3_BadPlan m5_BadPlan : Option Value}
    {fi_InvalidText H_InvalidText N_InvalidText : Addr} {oc_InvalidText kV_InvalidText dc_InvalidText pm_InvalidText cd_InvalidText ct_InvalidText : Value} {od_InvalidText an_InvalidText dd_InvalidText : Option Addr} {sl_InvalidText : Array (Option Value)} {nm_InvalidText q_InvalidText : Str} {bs_InvalidText : List Value} {sn_InvalidText : List Str} {su_InvalidText : List Value} {ab_InvalidText : Bool} {co_InvalidText : Option Bool} {m0_InvalidText m1_InvalidText m2_InvalidText m3_InvalidText m5_InvalidText : Option Value}
    (a_law_fault : PySem.W.nsIn K mainGlobals "_law_fault" = some (some (.ref f_law_fault)))
    (l_law_fault : K.lookup f_law_fault = some ⟨oc_law_fault, od_law_fault, .func (PySem.W.fnOf "_law_fault" "_law_fault" (defArgs (top 29)) (defBody (top 29)) (defScope (top 29)) .none kV_law_fault dc_law_fault pm_law_fault an_law_fault cd_law_fault ct_law_fault), sl_law_fault⟩)
    (c_law_fault : PySem.W.codeIn K cd_law_fault "_law_fault" = true)
    (k_law_fault : PySem.W.keepIn K (.ref f_law_fault) = true)
    (a_law_heaps : PySem.W.nsIn K mainGlobals "_law_heaps" = some (some (.ref f_law_heaps)))
    (l_law_heaps : K.lookup f_law_heaps = some ⟨oc_law_heaps, od_law_heaps, .func (PySem.W.fnOf "_law_heaps" "_law_heaps" (defArgs (top 25)) (defBody (top 25)) (defScope (top 25)) .none kV_law_heaps dc_law_heaps pm_law_heaps an_law_heaps cd_law_heaps ct_law_heaps), sl_law_heaps⟩)
    (c_law_heaps : PySem.W.codeIn K cd_law_heaps "_law_heaps" = true)
    (k_law_heaps : PySem.W.keepIn K (.ref f_law_heaps) = true)
    (a_law_pairs : PySem.W.nsIn K mainGlobals "_law_pairs" = some (some (.ref f_law_pairs)))
    (l_law_pairs : K.lookup f_law_pairs = some ⟨oc_law_pairs, od_law_pairs, .func (PySem.W.fnOf "_law_pairs" "_law_pairs" (defArgs (top 28)) (defBody (top 28)) (defScope (top 28)) .none kV_law_pairs dc_law_pairs pm_law_pairs an_law_pairs cd_law_pairs ct_law_pairs), sl_law_pairs⟩)
    (c_law_pairs : PySem.W.codeIn K cd_law_pairs "_law_pairs" = true)
    (k_law_pairs : PySem.W.keepIn K (.ref f_law_pairs) = true)
    (a_number_at : PySem.W.nsIn K mainGlobals "number_at" = some (some (.ref f_number_at)))
    (l_number_at : K.lookup f_number_at = some ⟨oc_number_at, od_number_at, .func (PySem.W.fnOf "number_at" "number_at" (defArgs (top 18)) (defBody (top 18)) (defScope (top 18)) .none kV_number_at dc_number_at pm_number_at an_number_at cd_number_at ct_number_at), sl_number_at⟩)
    (c_number_at : PySem.W.codeIn K cd_number_at "number_at" = true)
    (k_number_at : PySem.W.keepIn K (.ref f_number_at) = true)
    (a_read_heaps : PySem.W.nsIn K mainGlobals "read_heaps" = some (some (.ref f_read_heaps)))
    (l_read_heaps : K.lookup f_read_heaps = some ⟨oc_read_heaps, od_read_heaps, .func (PySem.W.fnOf "read_heaps" "read_heaps" (defArgs (top 19)) (defBody (top 19)) (defScope (top 19)) .none kV_read_heaps dc_read_heaps pm_read_heaps an_read_heaps cd_read_heaps ct_read_heaps), sl_read_heaps⟩)
    (c_read_heaps : PySem.W.codeIn K cd_read_heaps "read_heaps" = true)
    (k_read_heaps : PySem.W.keepIn K (.ref f_read_heaps) = true)
    (a_read_step : PySem.W.nsIn K mainGlobals "read_step" = some (some (.ref f_read_step)))
    (l_read_step : K.lookup f_read_step = some ⟨oc_read_step, od_read_step, .func (PySem.W.fnOf "read_step" "read_step" (defArgs (top 20)) (defBody (top 20)) (defScope (top 20)) .none kV_read_step dc_read_step pm_read_step an_read_step cd_read_step ct_read_step), sl_read_step⟩)
    (c_read_step : PySem.W.codeIn K cd_read_step "read_step" = true)
    (k_read_step : PySem.W.keepIn K (.ref f_read_step) = true)
    (a_read_plan : PySem.W.nsIn K mainGlobals "read_plan" = some (some (.ref f_read_plan)))
    (l_read_plan : K.lookup f_read_plan = some ⟨oc_read_plan, od_read_plan, .func (PySem.W.fnOf "read_plan" "read_plan" (defArgs (top 21)) (defBody (top 21)) (defScope (top 21)) .none kV_read_plan dc_read_plan pm_read_plan an_read_plan cd_read_plan ct_read_plan), sl_read_plan⟩)
    (c_read_plan : PySem.W.codeIn K cd_read_plan "read_plan" = true)
    (k_read_plan : PySem.W.keepIn K (.ref f_read_plan) = true)
    (a_is_integer : PySem.W.nsIn K mainGlobals "is_integer" = some (some (.ref f_is_integer)))
    (l_is_integer : K.lookup f_is_integer = some ⟨oc_is_integer, od_is_integer, .func (PySem.W.fnOf "is_integer" "is_integer" (defArgs (top 10)) (defBody (top 10)) (defScope (top 10)) .none kV_is_integer dc_is_integer pm_is_integer an_is_integer cd_is_integer ct_is_integer), sl_is_integer⟩)
    (c_is_integer : PySem.W.codeIn K cd_is_integer "is_integer" = true)
    (k_is_integer : PySem.W.keepIn K (.ref f_is_integer) = true)
    (a_is_from : PySem.W.nsIn K mainGlobals "is_from" = some (some (.ref f_is_from)))
    (l_is_from : K.lookup f_is_from = some ⟨oc_is_from, od_is_from, .func (PySem.W.fnOf "is_from" "is_from" (defArgs (top 11)) (defBody (top 11)) (defScope (top 11)) .none kV_is_from dc_is_from pm_is_from an_is_from cd_is_from ct_is_from), sl_is_from⟩)
    (c_is_from : PySem.W.codeIn K cd_is_from "is_from" = true)
    (k_is_from : PySem.W.keepIn K (.ref f_is_from) = true)
    (a_check_heaps : PySem.W.nsIn K mainGlobals "check_heaps" = some (some (.ref f_check_heaps)))
    (l_check_heaps : K.lookup f_check_heaps = some ⟨oc_check_heaps, od_check_heaps, .func (PySem.W.fnOf "check_heaps" "check_heaps" (defArgs (top 12)) (defBody (top 12)) (defScope (top 12)) .none kV_check_heaps dc_check_heaps pm_check_heaps an_check_heaps cd_check_heaps ct_check_heaps), sl_check_heaps⟩)
    (c_check_heaps : PySem.W.codeIn K cd_check_heaps "check_heaps" = true)
    (k_check_heaps : PySem.W.keepIn K (.ref f_check_heaps) = true)
    (a_is_step : PySem.W.nsIn K mainGlobals "is_step" = some (some (.ref f_is_step)))
    (l_is_step : K.lookup f_is_step = some ⟨oc_is_step, od_is_step, .func (PySem.W.fnOf "is_step" "is_step" (defArgs (top 13)) (defBody (top 13)) (defScope (top 13)) .none kV_is_step dc_is_step pm_is_step an_is_step cd_is_step ct_is_step), sl_is_step⟩)
    (c_is_step : PySem.W.codeIn K cd_is_step "is_step" = true)
    (k_is_step : PySem.W.keepIn K (.ref f_is_step) = true)
    (a_check_plan : PySem.W.nsIn K mainGlobals "check_plan" = some (some (.ref f_check_plan)))
    (l_check_plan : K.lookup f_check_plan = some ⟨oc_check_plan, od_check_plan, .func (PySem.W.fnOf "check_plan" "check_plan" (defArgs (top 14)) (defBody (top 14)) (defScope (top 14)) .none kV_check_plan dc_check_plan pm_check_plan an_check_plan cd_check_plan ct_check_plan), sl_check_plan⟩)
    (c_check_plan : PySem.W.codeIn K cd_check_plan "check_plan" = true)
    (k_check_plan : PySem.W.keepIn K (.ref f_check_plan) = true)
    (a_write_plan : PySem.W.nsIn K mainGlobals "write_plan" = some (some (.ref f_write_plan)))
    (l_write_plan : K.lookup f_write_plan = some ⟨oc_write_plan, od_write_plan, .func (PySem.W.fnOf "write_plan" "write_plan" (defArgs (top 17)) (defBody (top 17)) (defScope (top 17)) .none kV_write_plan dc_write_plan pm_write_plan an_write_plan cd_write_plan ct_write_plan), sl_write_plan⟩)
    (c_write_plan : PySem.W.codeIn K cd_write_plan "write_plan" = true)
    (k_write_plan : PySem.W.keepIn K (.ref f_write_plan) = true)
    (a_law : PySem.W.nsIn K mainGlobals "law" = some (some (.ref f_law)))
    (l_law : K.lookup f_law = some ⟨oc_law, od_law, .func (PySem.W.fnOf "law" "law" (defArgs (top 30)) (defBody (top 30)) (defScope (top 30)) .none kV_law dc_law pm_law an_law cd_law ct_law), sl_law⟩)
    (c_law : PySem.W.codeIn K cd_law "law" = true)
    (k_law : PySem.W.keepIn K (.ref f_law) = true)
    (a_law_mix : PySem.W.nsIn K mainGlobals "_law_mix" = some (some (.ref f_law_mix)))
    (l_law_mix : K.lookup f_law_mix = some ⟨oc_law_mix, od_law_mix, .func (PySem.W.fnOf "_law_mix" "_law_mix" (defArgs (top 23)) (defBody (top 23)) (defScope (top 23)) .none kV_law_mix dc_law_mix pm_law_mix an_law_mix cd_law_mix ct_law_mix), sl_law_mix⟩)
    (c_law_mix : PySem.W.codeIn K cd_law_mix "_law_mix" = true)
    (k_law_mix : PySem.W.keepIn K (.ref f_law_mix) = true)
    (a_law_next : PySem.W.nsIn K mainGlobals "_law_next" = some (some (.ref f_law_next)))
    (l_law_next : K.lookup f_law_next = some ⟨oc_law_next, od_law_next, .func (PySem.W.fnOf "_law_next" "_law_next" (defArgs (top 24)) (defBody (top 24)) (defScope (top 24)) .none kV_law_next dc_law_next pm_law_next an_law_next cd_law_next ct_law_next), sl_law_next⟩)
    (c_law_next : PySem.W.codeIn K cd_law_next "_law_next" = true)
    (k_law_next : PySem.W.keepIn K (.ref f_law_next) = true)
    (b_bool : PySem.W.nsIn K mainGlobals "bool" = some none)
    (b_enumerate : PySem.W.nsIn K mainGlobals "enumerate" = some none)
    (b_int : PySem.W.nsIn K mainGlobals "int" = some none)
    (b_isinstance : PySem.W.nsIn K mainGlobals "isinstance" = some none)
    (b_len : PySem.W.nsIn K mainGlobals "len" = some none)
    (b_list : PySem.W.nsIn K mainGlobals "list" = some none)
    (b_max : PySem.W.nsIn K mainGlobals "max" = some none)
    (b_range : PySem.W.nsIn K mainGlobals "range" = some none)
    (b_str : PySem.W.nsIn K mainGlobals "str" = some none)
    (b_tuple : PySem.W.nsIn K mainGlobals "tuple" = some none)
    (v_LEAST_HEAPS : ∃ t, mg "LEAST_HEAPS" = some (.int 2 t))
    (v_MOST_HEAPS : ∃ t, mg "MOST_HEAPS" = some (.int 6 t))
    (v_MOST_IN_HEAP : ∃ t, mg "MOST_IN_HEAP" = some (.int 1000000000000000000000000000000 t))
    (v_MOST_STEPS : ∃ t, mg "MOST_STEPS" = some (.int 20000 t))
    (v_MOST_FIGURES : ∃ t, mg "MOST_FIGURES" = some (.int 31 t))
    (g_BadHeaps : PySem.W.nsIn K mainGlobals "BadHeaps" = some (some (.ref C_BadHeaps)))
    (kc_BadHeaps : PySem.W.keepIn K (.ref C_BadHeaps) = true)
    (sb_BadHeaps : PySem.W.subIn K (.ref C_BadHeaps) (.type "BaseException") = some true)
    (ty_BadHeaps : PySem.W.typeIn K (.ref C_BadHeaps) = some (.type "type"))
    (g_BadPlan : PySem.W.nsIn K mainGlobals "BadPlan" = some (some (.ref C_BadPlan)))
    (kc_BadPlan : PySem.W.keepIn K (.ref C_BadPlan) = true)
    (sb_BadPlan : PySem.W.subIn K (.ref C_BadPlan) (.type "BaseException") = some true)
    (ty_BadPlan : PySem.W.typeIn K (.ref C_BadPlan) = some (.type "type"))
    (g_HeapError : PySem.W.nsIn K mainGlobals "HeapError" = some (some (.ref C_HeapError)))
    (kc_HeapError : PySem.W.keepIn K (.ref C_HeapError) = true)
    (sb_HeapError : PySem.W.subIn K (.ref C_HeapError) (.type "BaseException") = some true)
    (ty_HeapError : PySem.W.typeIn K (.ref C_HeapError) = some (.type "type"))
    (g_InvalidText : PySem.W.nsIn K mainGlobals "InvalidText" = some (some (.ref C_InvalidText)))
    (kc_InvalidText : PySem.W.keepIn K (.ref C_InvalidText) = true)
    (sb_InvalidText : PySem.W.subIn K (.ref C_InvalidText) (.type "BaseException") = some true)
    (ty_InvalidText : PySem.W.typeIn K (.ref C_InvalidText) = some (.type "type"))
    (ex_BadHeaps : PySem.W.excIn K C_BadHeaps [.type "ValueError", .type "Exception", .type "BaseException", .type "object"] "ValueError.__new__" = true)
    (xL_BadPlan : K.lookup C_BadPlan = some (excClassObj nm_BadPlan q_BadPlan C_BadPlan N_BadPlan bs_BadPlan [.ref H_BadPlan, .type "ValueError", .type "Exception", .type "BaseException", .type "object"] true sn_BadPlan su_BadPlan ab_BadPlan co_BadPlan dd_BadPlan m0_BadPlan m1_BadPlan m2_BadPlan m3_BadPlan m5_BadPlan "ValueError.__new__"))
    (sa_BadPlan : PySem.W.findIn K (.ref C_BadPlan) "__setattr__" = some (some (.builtin "object.__setattr__")))
    (i_BadPlan : PySem.W.findIn K (.ref C_BadPlan) "__init__" = some (some (.ref fi_BadPlan)))
    (ti_BadPlan : PySem.W.typeIn K (.ref fi_BadPlan) = some (.type "function"))
    (li_BadPlan : K.lookup fi_BadPlan = some ⟨oc_BadPlan, od_BadPlan, .func (PySem.W.fnOf "__init__" "BadPlan.__init__" (defArgs (inC (top 3) 0)) (defBody (inC (top 3) 0)) (defScope (inC (top 3) 0)) .none kV_BadPlan dc_BadPlan pm_BadPlan an_BadPlan cd_BadPlan ct_BadPlan), sl_BadPlan⟩)
    (ci_BadPlan : PySem.W.codeIn K cd_BadPlan "BadPlan.__init__" = true)
    (ki_BadPlan : PySem.W.keepIn K (.ref fi_BadPlan) = true)
    (no_BadPlan_index : PySem.W.findIn K (.ref C_BadPlan) "index" = some none)
    (xL_InvalidText : K.lookup C_InvalidText = some (excClassObj nm_InvalidText q_InvalidText C_InvalidText N_InvalidText bs_InvalidText [.ref H_InvalidText, .type "ValueError", .type "Exception", .type "BaseException", .type "object"] true sn_InvalidText su_InvalidText ab_InvalidText co_InvalidText dd_InvalidText m0_InvalidText m1_InvalidText m2_InvalidText m3_InvalidText m5_InvalidText "ValueError.__new__"))
    (sa_InvalidText : PySem.W.findIn K (.ref C_InvalidText) "__setattr__" = some (some (.builtin "object.__setattr__")))
    (i_InvalidText : PySem.W.findIn K (.ref C_InvalidText) "__init__" = some (some (.ref fi_InvalidText)))
    (ti_InvalidText : PySem.W.typeIn K (.ref fi_InvalidText) = some (.type "function"))
    (li_InvalidText : K.lookup fi_InvalidText = some ⟨oc_InvalidText, od_InvalidText, .func (PySem.W.fnOf "__init__" "InvalidText.__init__" (defArgs (inC (top 4) 0)) (defBody (inC (top 4) 0)) (defScope (inC (top 4) 0)) .none kV_InvalidText dc_InvalidText pm_InvalidText an_InvalidText cd_InvalidText ct_InvalidText), sl_InvalidText⟩)
    (ci_InvalidText : PySem.W.codeIn K cd_InvalidText "InvalidText.__init__" = true)
    (ki_InvalidText : PySem.W.keepIn K (.ref fi_InvalidText) = true)
    (no_InvalidText_line : PySem.W.findIn K (.ref C_InvalidText) "line" = some none)
    (no_InvalidText_word : PySem.W.findIn K (.ref C_InvalidText) "word" = some none)
    (hd_InvalidText : PySem.W.hasDictIn K C_InvalidText = true)
    (ga_InvalidText : PySem.W.findIn K (.ref C_InvalidText) "__getattribute__" = some (some (.builtin "BaseException.__getattribute__")))
    (gg_InvalidText : PySem.W.findIn K (.ref C_InvalidText) "__getattr__" = some none)
    (su_InvalidText_InvalidText : PySem.W.subIn K (.ref C_InvalidText) (.ref C_InvalidText) = some true)
    (cc_InvalidText : PySem.W.findIn K (.ref C_InvalidText) "__class__" = some (some (.builtin "object.__class__")))
    (cm_InvalidText : PySem.W.mroIn K C_InvalidText (.type "object") = some true)
    (cn_ : PySem.W.specialIn K (.builtin "object.__class__") "__get__" = some (some (.builtin "getset_descriptor.__get__")))
    (ct_ : PySem.W.takesIn K (.builtin "object.__class__") = some true)
    (kt_InvalidText_HeapError : PySem.W.kitOne K (.ref C_InvalidText) (.ref C_HeapError) = some true)
    : ∃ fd : FuncData, (∀ (s : Shared) (v : Value), BindsTo s fd ⟨[v], []⟩ [("_law_script", v)]) ∧ ∀ base : Heap, K.In base → base.Ns mainGlobals mg → FnOk P w K mg base (L2.CX P w) 6 fa fd ["_law_script"] (spLaw K) := by
  have e := hfa.symm.trans (PySem.W.mg_of X G a_law)
  cases e
  have T : Txt K mg := {
    f_law_fault := ⟨_, _, fun_mk (st := top 29) l_law_fault c_law_fault k_law_fault, PySem.W.mg_of X G a_law_fault⟩
    f_law_heaps := ⟨_, _, fun_mk (st := top 25) l_law_heaps c_law_heaps k_law_heaps, PySem.W.mg_of X G a_law_heaps⟩
    f_law_pairs := ⟨_, _, fun_mk (st := top 28) l_law_pairs c_law_pairs k_law_pairs, PySem.W.mg_of X G a_law_pairs⟩
    f_number_at := ⟨_, _, fun_mk (st := top 18) l_number_at c_number_at k_number_at, PySem.W.mg_of X G a_number_at⟩
    f_read_heaps := ⟨_, _, fun_mk (st := top 19) l_read_heaps c_read_heaps k_read_heaps, PySem.W.mg_of X G a_read_heaps⟩
    f_read_step := ⟨_, _, fun_mk (st := top 20) l_read_step c_read_step k_read_step, PySem.W.mg_of X G a_read_step⟩
    f_read_plan := ⟨_, _, fun_mk (st := top 21) l_read_plan c_read_plan k_read_plan, PySem.W.mg_of X G a_read_plan⟩
    f_is_integer := ⟨_, _, fun_mk (st := top 10) l_is_integer c_is_integer k_is_integer, PySem.W.mg_of X G a_is_integer⟩
    f_is_from := ⟨_, _, fun_mk (st := top 11) l_is_from c_is_from k_is_from, PySem.W.mg_of X G a_is_from⟩
    f_check_heaps := ⟨_, _, fun_mk (st := top 12) l_check_heaps c_check_heaps k_check_heaps, PySem.W.mg_of X G a_check_heaps⟩
    f_is_step := ⟨_, _, fun_mk (st := top 13) l_is_step c_is_step k_is_step, PySem.W.mg_of X G a_is_step⟩
    f_check_plan := ⟨_, _, fun_mk (st := top 14) l_check_plan c_check_plan k_check_plan, PySem.W.mg_of X G a_check_plan⟩
    f_write_plan := ⟨_, _, fun_mk (st := top 17) l_write_plan c_write_plan k_write_plan, PySem.W.mg_of X G a_write_plan⟩
    f_law := ⟨_, _, fun_mk (st := top 30) l_law c_law k_law, PySem.W.mg_of X G a_law⟩
    f_law_mix := ⟨_, _, fun_mk (st := top 23) l_law_mix c_law_mix k_law_mix, PySem.W.mg_of X G a_law_mix⟩
    f_law_next := ⟨_, _, fun_mk (st := top 24) l_law_next c_law_next k_law_next, PySem.W.mg_of X G a_law_next⟩
    b_bool := PySem.W.mg_none_of X G b_bool
    b_enumerate := PySem.W.mg_none_of X G b_enumerate
    b_int := PySem.W.mg_none_of X G b_int
    b_isinstance := PySem.W.mg_none_of X G b_isinstance
    b_len := PySem.W.mg_none_of X G b_len
    b_list := PySem.W.mg_none_of X G b_list
    b_max := PySem.W.mg_none_of X G b_max
    b_range := PySem.W.mg_none_of X G b_range
    b_str := PySem.W.mg_none_of X G b_str
    b_tuple := PySem.W.mg_none_of X G b_tuple
    c_LEAST_HEAPS := v_LEAST_HEAPS
    c_MOST_HEAPS := v_MOST_HEAPS
    c_MOST_IN_HEAP := v_MOST_IN_HEAP
    c_MOST_STEPS := v_MOST_STEPS
    c_MOST_FIGURES := v_MOST_FIGURES
    r_BadHeaps := ⟨C_BadHeaps, PySem.W.mg_of X G g_BadHeaps, kc_BadHeaps, ex_BadHeaps, sb_BadHeaps, ty_BadHeaps⟩
    i_BadPlan := ⟨C_BadPlan, fi_BadPlan, _, PySem.W.mg_of X G g_BadPlan, ⟨⟨_, _, _, _, _, _, _, _, _, _, _, _, _, _, _, xL_BadPlan, by rfl⟩, sa_BadPlan, sb_BadPlan, ty_BadPlan, kc_BadPlan⟩, i_BadPlan, ti_BadPlan, fun_mk (st := inC (top 3) 0) li_BadPlan ci_BadPlan ki_BadPlan, no_BadPlan_index⟩
    i_InvalidText := ⟨C_InvalidText, fi_InvalidText, _, PySem.W.mg_of X G g_InvalidText, ⟨⟨_, _, _, _, _, _, _, _, _, _, _, _, _, _, _, xL_InvalidText, by rfl⟩, sa_InvalidText, sb_InvalidText, ty_InvalidText, kc_InvalidText⟩, i_InvalidText, ti_InvalidText, fun_mk (st := inC (top 4) 0) li_InvalidText ci_InvalidText ki_InvalidText, no_InvalidText_line, no_InvalidText_word⟩
    x_InvalidText := ⟨C_InvalidText, PySem.W.mg_of X G g_InvalidText, ⟨fun x b hx A hA => by
      by_cases eInvalidText : x = "InvalidText"
      · subst eInvalidText
        cases hx
        cases hA.symm.trans (PySem.W.mg_of X G g_InvalidText)
        exact PySem.W.exm_ref sb_InvalidText hd_InvalidText ty_InvalidText su_InvalidText_InvalidText
      simp only [m_InvalidText, if_neg eInvalidText] at hx; cases hx⟩, 
      ⟨ga_InvalidText, gg_InvalidText, sb_InvalidText, hd_InvalidText⟩, no_InvalidText_line, no_InvalidText_word⟩
    is_HeapError := ⟨C_HeapError, PySem.W.mg_of X G g_HeapError, fun x b D hx hD => by
      by_cases eInvalidText : x = "InvalidText"
      · subst eInvalidText
        cases hx
        cases hD.symm.trans (PySem.W.mg_of X G g_InvalidText)
        exact ⟨kt_InvalidText_HeapError, ⟨ga_InvalidText, gg_InvalidText, sb_InvalidText, hd_InvalidText, cc_InvalidText, cn_, ct_, cm_InvalidText⟩⟩
      simp only [mIs_HeapError, if_neg eInvalidText] at hx; cases hx⟩
  }
  exact ⟨PySem.W.fnOf "law" "law" (defArgs (top 30)) (defBody (top 30)) (defScope (top 30)) .none kV_law dc_law pm_law an_law cd_law ct_law, fun s v => .of_eq rfl, fun base _ _ => ok_law T (fun_mk (st := top 30) l_law c_law k_law)⟩
end Pu
open PySem PySem.W PyProof.Rows
set_option maxRecDepth 100000 in
set_option maxHeartbeats 0 in
theorem PySem.Challenge.cw_heapsdouble_k08_whole_texts_refused_holds : PySem.Challenge.rw_heapsdouble_k08_whole_texts_refused.Holds := by
  w_on; o_law; k_head; (case hw => w_witness2)
  k_fill
  refine Pu.law_walk (l := PySem.Challenge.rw_heapsdouble_k08_whole_texts_refused) (k := 6) rfl rfl ⟨rfl, by decide, by decide⟩ (fun w g Y => PySem.W.kIn_of Y) ?F
  case F =>
    intro w mg fa g KX G LX hmg
    refine' Pu.all_mk KX G hmg ?a_law_fault ?l_law_fault ?c_law_fault ?k_law_fault ?a_law_heaps ?l_law_heaps ?c_law_heaps ?k_law_heaps ?a_law_pairs ?l_law_pairs ?c_law_pairs ?k_law_pairs ?a_number_at ?l_number_at ?c_number_at ?k_number_at ?a_read_heaps ?l_read_heaps ?c_read_heaps ?k_read_heaps ?a_read_step ?l_read_step ?c_read_step ?k_read_step ?a_read_plan ?l_read_plan ?c_read_plan ?k_read_plan ?a_is_integer ?l_is_integer ?c_is_integer ?k_is_integer ?a_is_from ?l_is_from ?c_is_from ?k_is_from ?a_check_heaps ?l_check_heaps ?c_check_heaps ?k_check_heaps ?a_is_step ?l_is_step ?c_is_step ?k_is_step ?a_check_plan ?l_check_plan ?c_check_plan ?k_check_plan ?a_write_plan ?l_write_plan ?c_write_plan ?k_write_plan ?a_law ?l_law ?c_law ?k_law ?a_law_mix ?l_law_mix ?c_law_mix ?k_law_mix ?a_law_next ?l_law_next ?c_law_next ?k_law_next ?b_bool ?b_enumerate ?b_int ?b_isinstance ?b_len ?b_list ?b_max ?b_range ?b_str ?b_tuple ?v_LEAST_HEAPS ?v_MOST_HEAPS ?v_MOST_IN_HEAP ?v_MOST_STEPS ?v_MOST_FIGURES ?g_BadHeaps ?kc_BadHeaps ?sb_BadHeaps ?ty_BadHeaps ?g_BadPlan ?kc_BadPlan ?sb_BadPlan ?ty_BadPlan ?g_HeapError ?kc_HeapError ?sb_HeapError ?ty_HeapError ?g_InvalidText ?kc_InvalidText ?sb_InvalidText ?ty_InvalidText ?ex_BadHeaps ?xL_BadPlan ?sa_BadPlan ?i_BadPlan ?ti_BadPlan ?li_BadPlan ?ci_BadPlan ?ki_BadPlan ?no_BadPlan_index ?xL_InvalidText ?sa_InvalidText ?i_InvalidText ?ti_InvalidText ?li_InvalidText ?ci_InvalidText ?ki_InvalidText ?no_InvalidText_line ?no_InvalidText_word ?hd_InvalidText ?ga_InvalidText ?gg_InvalidText ?su_InvalidText_InvalidText ?cc_InvalidText ?cm_InvalidText ?cn_ ?ct_ ?kt_InvalidText_HeapError
    (case a_law_fault => k_is)
    (case l_law_fault => k_is)
    (case c_law_fault => k_is)
    (case k_law_fault => k_is)
    (case a_law_heaps => k_is)
    (case l_law_heaps => k_is)
    (case c_law_heaps => k_is)
    (case k_law_heaps => k_is)
    (case a_law_pairs => k_is)
    (case l_law_pairs => k_is)
    (case c_law_pairs => k_is)
    (case k_law_pairs => k_is)
    (case a_number_at => k_is)
    (case l_number_at => k_is)
    (case c_number_at => k_is)
    (case k_number_at => k_is)
    (case a_read_heaps => k_is)
    (case l_read_heaps => k_is)
    (case c_read_heaps => k_is)
    (case k_read_heaps => k_is)
    (case a_read_step => k_is)
    (case l_read_step => k_is)
    (case c_read_step => k_is)
    (case k_read_step => k_is)
    (case a_read_plan => k_is)
    (case l_read_plan => k_is)
    (case c_read_plan => k_is)
    (case k_read_plan => k_is)
    (case a_is_integer => k_is)
    (case l_is_integer => k_is)
    (case c_is_integer => k_is)
    (case k_is_integer => k_is)
    (case a_is_from => k_is)
    (case l_is_from => k_is)
    (case c_is_from => k_is)
    (case k_is_from => k_is)
    (case a_check_heaps => k_is)
    (case l_check_heaps => k_is)
    (case c_check_heaps => k_is)
    (case k_check_heaps => k_is)
    (case a_is_step => k_is)
    (case l_is_step => k_is)
    (case c_is_step => k_is)
    (case k_is_step => k_is)
    (case a_check_plan => k_is)
    (case l_check_plan => k_is)
    (case c_check_plan => k_is)
    (case k_check_plan => k_is)
    (case a_write_plan => k_is)
    (case l_write_plan => k_is)
    (case c_write_plan => k_is)
    (case k_write_plan => k_is)
    (case a_law => k_is)
    (case l_law => k_is)
    (case c_law => k_is)
    (case k_law => k_is)
    (case a_law_mix => k_is)
    (case l_law_mix => k_is)
    (case c_law_mix => k_is)
    (case k_law_mix => k_is)
    (case a_law_next => k_is)
    (case l_law_next => k_is)
    (case c_law_next => k_is)
    (case k_law_next => k_is)
    (case b_bool => k_is)
    (case b_enumerate => k_is)
    (case b_int => k_is)
    (case b_isinstance => k_is)
    (case b_len => k_is)
    (case b_list => k_is)
    (case b_max => k_is)
    (case b_range => k_is)
    (case b_str => k_is)
    (case b_tuple => k_is)
    (case v_LEAST_HEAPS => exact ⟨_, PySem.W.mg_of KX G (by k_is)⟩)
    (case v_MOST_HEAPS => exact ⟨_, PySem.W.mg_of KX G (by k_is)⟩)
    (case v_MOST_IN_HEAP => exact Pu.loose_int LX (by simp))
    (case v_MOST_STEPS => exact ⟨_, PySem.W.mg_of KX G (by k_is)⟩)
    (case v_MOST_FIGURES => exact ⟨_, PySem.W.mg_of KX G (by k_is)⟩)
    (case g_BadHeaps => k_is)
    (case kc_BadHeaps => k_is)
    (case sb_BadHeaps => k_is)
    (case ty_BadHeaps => k_is)
    (case g_BadPlan => k_is)
    (case kc_BadPlan => k_is)
    (case sb_BadPlan => k_is)
    (case ty_BadPlan => k_is)
    (case g_HeapError => k_is)
    (case kc_HeapError => k_is)
    (case sb_HeapError => k_is)
    (case ty_HeapError => k_is)
    (case g_InvalidText => k_is)
    (case kc_InvalidText => k_is)
    (case sb_InvalidText => k_is)
    (case ty_InvalidText => k_is)
    (case ex_BadHeaps => k_exc)
    (case xL_BadPlan => k_is)
    (case sa_BadPlan => k_is)
    (case i_BadPlan => k_is)
    (case ti_BadPlan => k_is)
    (case li_BadPlan => k_is)
    (case ci_BadPlan => k_is)
    (case ki_BadPlan => k_is)
    (case no_BadPlan_index => k_is)
    (case xL_InvalidText => k_is)
    (case sa_InvalidText => k_is)
    (case i_InvalidText => k_is)
    (case ti_InvalidText => k_is)
    (case li_InvalidText => k_is)
    (case ci_InvalidText => k_is)
    (case ki_InvalidText => k_is)
    (case no_InvalidText_line => k_is)
    (case no_InvalidText_word => k_is)
    (case hd_InvalidText => k_is)
    (case ga_InvalidText => k_is)
    (case gg_InvalidText => k_is)
    (case su_InvalidText_InvalidText => first | rfl | k_is)
    (case cc_InvalidText => k_is)
    (case cm_InvalidText => k_is)
    (case cn_ => first | kit_is | k_is | rfl)
    (case ct_ => first | kit_is | k_is | rfl)
    (case kt_InvalidText_HeapError => first | kit_is | k_is | rfl)

