import PyProof.Rows.All
import Wide.All
import OpenK.AllK
import Wide.FinOn
import HandS.ForMost
import HandS.ForExc
import HandS.Wide
import HandS.IsInst
import HandS.Deep
import KE.SortData
import HandS.TupAny
import HandS.WideMore
import KE.DataMinMax
import HandS.SortInts
import HandS.Flow
import KE.GoesEnum
import KE.KTupSum
import HandS.TryOnly
import HandS.ExcInit
import HandS.ExcField
import HandS.Style
import HandS.Comp
import HandS.ExcIs
import PySem.Challenge.RW_heapsdouble_k03_whole_walks_of_two
set_option Elab.async false
set_option linter.all false
set_option maxRecDepth 100000
namespace Pu
open PySem L2

/-! ### data -/
mutual
def flat : PyData → Bool
  | .list _ => false
  | .dict _ => false
  | .tuple xs => flats xs
  | .none => true
  | .bool _ => true
  | .int _ => true
  | .str _ => true
def flats : List PyData → Bool
  | [] => true
  | x :: r => flat x && flats r
end
theorem flats_iff : ∀ {xs : List PyData}, flats xs = true ↔ ∀ x ∈ xs, flat x = true
  | [] => by simp [flats]
  | x :: r => by simp [flats, flats_iff (xs := r)]
def keyD : Key → PyData
  | .inl i => .int i
  | .inr s => .str s

/-! ### heaps: an object less its lock -/
def isDct : HO → Bool
  | .dK _ => true
  | .dT _ => true
  | _ => false
def isTup : HO → Bool
  | .tup _ => true
  | _ => false
def core : HO → HO
  | .frz o w => if isDct w then w else .frz o w
  | u => u
def co (H : Hp) : Hp := fun a => (H a).map core
theorem co_none {H : Hp} {a : Addr} : co H a = none ↔ H a = none := by
  unfold co
  cases H a <;> simp
theorem core_lst {u : HO} {xs : List V} (h : core u = .lst xs) : u = .lst xs := by
  cases u <;> simp [core] at h ⊢
  · exact h
  · rename_i o w
    cases w <;> simp [isDct] at h
theorem core_tup {u : HO} {xs : List V} (h : core u = .tup xs) : u = .tup xs := by
  cases u <;> simp [core] at h ⊢
  · exact h
  · rename_i o w
    cases w <;> simp [isDct] at h
theorem core_dK {u : HO} {xs : List (Key × V)} (h : core u = .dK xs) : u = .dK xs ∨ ∃ o, u = .frz o (.dK xs) := by
  cases u <;> simp [core] at h ⊢
  · exact h
  · rename_i o w
    cases w <;> simp [isDct] at h ⊢
    exact h
theorem core_dT {u : HO} {xs : List (List Key × V)} (h : core u = .dT xs) : u = .dT xs ∨ ∃ o, u = .frz o (.dT xs) := by
  cases u <;> simp [core] at h ⊢
  · exact h
  · rename_i o w
    cases w <;> simp [isDct] at h ⊢
    exact h
theorem co_lst {H : Hp} {a : Addr} {xs : List V} (h : co H a = some (.lst xs)) : H a = some (.lst xs) := by
  unfold co at h
  cases e : H a with
  | none => rw [e] at h; cases h
  | some u => rw [e] at h; rw [core_lst (Option.some.inj h)]
theorem co_tup {H : Hp} {a : Addr} {xs : List V} (h : co H a = some (.tup xs)) : H a = some (.tup xs) := by
  unfold co at h
  cases e : H a with
  | none => rw [e] at h; cases h
  | some u => rw [e] at h; rw [core_tup (Option.some.inj h)]
theorem co_dK {H : Hp} {a : Addr} {xs : List (Key × V)} (h : co H a = some (.dK xs)) : Rd H a (.dK xs) := by
  unfold co at h
  cases e : H a with
  | none => rw [e] at h; cases h
  | some u =>
    rw [e] at h
    rcases core_dK (Option.some.inj h) with z | ⟨o, z⟩
    · exact .inl (by rw [e, z])
    · exact .inr ⟨o, by rw [e, z]⟩
theorem co_dT {H : Hp} {a : Addr} {xs : List (List Key × V)} (h : co H a = some (.dT xs)) : Rd H a (.dT xs) := by
  unfold co at h
  cases e : H a with
  | none => rw [e] at h; cases h
  | some u =>
    rw [e] at h
    rcases core_dT (Option.some.inj h) with z | ⟨o, z⟩
    · exact .inl (by rw [e, z])
    · exact .inr ⟨o, by rw [e, z]⟩
theorem co_upd {H : Hp} {a : Addr} {u : HO} : co (upd H a u) = upd (co H) a (core u) := by
  funext b
  unfold co upd
  by_cases e : b = a
  · rw [if_pos e, if_pos e]; rfl
  · rw [if_neg e, if_neg e]
theorem co_of {H : Hp} {a : Addr} {u : HO} (h : H a = some u) : co H a = some (core u) := by
  unfold co; rw [h]; rfl

/-! ### what a value stands for -/
mutual
inductive Rp (G : Hp) : V → PyData → Prop
  | non : Rp G .non .none
  | bl (b : Bool) : Rp G (.bl b) (.bool b)
  | int (i : Int) : Rp G (.int i) (.int i)
  | str (s : Str) : Rp G (.str s) (.str s)
  | lst {a : Addr} {vs : List V} {ds : List PyData} : G a = some (.lst vs) → RpAll G vs ds → Rp G (.ref a) (.list ds)
  | tup {a : Addr} {vs : List V} {ds : List PyData} : G a = some (.tup vs) → RpAll G vs ds → Rp G (.ref a) (.tuple ds)
  | dK {a : Addr} {kvs : List (Key × V)} {es : List (PyData × PyData)} : G a = some (.dK kvs) → RpK G kvs es → Rp G (.ref a) (.dict es)
  | dT {a : Addr} {kvs : List (List Key × V)} {es : List (PyData × PyData)} : G a = some (.dT kvs) → RpT G kvs es → Rp G (.ref a) (.dict es)
inductive RpAll (G : Hp) : List V → List PyData → Prop
  | nil : RpAll G [] []
  | cons {v : V} {d : PyData} {vs : List V} {ds : List PyData} : Rp G v d → RpAll G vs ds → RpAll G (v :: vs) (d :: ds)
inductive RpK (G : Hp) : List (Key × V) → List (PyData × PyData) → Prop
  | nil : RpK G [] []
  | cons {k : Key} {v : V} {d : PyData} {kvs : List (Key × V)} {es : List (PyData × PyData)} : Rp G v d → RpK G kvs es → RpK G ((k, v) :: kvs) ((keyD k, d) :: es)
inductive RpT (G : Hp) : List (List Key × V) → List (PyData × PyData) → Prop
  | nil : RpT G [] []
  | cons {k : List Key} {v : V} {d : PyData} {kvs : List (List Key × V)} {es : List (PyData × PyData)} : Rp G v d → RpT G kvs es → RpT G ((k, v) :: kvs) ((.tuple (k.map keyD), d) :: es)
end
/-- G' knows all that G knows -/
def Le (G G' : Hp) : Prop := ∀ a u, G a = some u → G' a = some u
theorem Le.refl (G : Hp) : Le G G := fun _ _ h => h
theorem Le.trans {G G' G2 : Hp} (a : Le G G') (b : Le G' G2) : Le G G2 := fun x u h => b x u (a x u h)
theorem Le.co {H H' : Hp} (h : Le H H') : Le (co H) (co H') := fun a u e => by
  unfold Pu.co at e ⊢
  cases q : H a with
  | none => rw [q] at e; cases e
  | some z => rw [h a z q]; rw [q] at e; exact e
mutual
theorem Rp.mono {G G' : Hp} (h : Le G G') : ∀ {v : V} {d : PyData}, Rp G v d → Rp G' v d
  | _, _, .non => .non
  | _, _, .bl b => .bl b
  | _, _, .int i => .int i
  | _, _, .str s => .str s
  | _, _, .lst e r => .lst (h _ _ e) (RpAll.mono h r)
  | _, _, .tup e r => .tup (h _ _ e) (RpAll.mono h r)
  | _, _, .dK e r => .dK (h _ _ e) (RpK.mono h r)
  | _, _, .dT e r => .dT (h _ _ e) (RpT.mono h r)
theorem RpAll.mono {G G' : Hp} (h : Le G G') : ∀ {vs : List V} {ds : List PyData}, RpAll G vs ds → RpAll G' vs ds
  | _, _, .nil => .nil
  | _, _, .cons a b => .cons (Rp.mono h a) (RpAll.mono h b)
theorem RpK.mono {G G' : Hp} (h : Le G G') : ∀ {vs : List (Key × V)} {ds : List (PyData × PyData)}, RpK G vs ds → RpK G' vs ds
  | _, _, .nil => .nil
  | _, _, .cons a b => .cons (Rp.mono h a) (RpK.mono h b)
theorem RpT.mono {G G' : Hp} (h : Le G G') : ∀ {vs : List (List Key × V)} {ds : List (PyData × PyData)}, RpT G vs ds → RpT G' vs ds
  | _, _, .nil => .nil
  | _, _, .cons a b => .cons (Rp.mono h a) (RpT.mono h b)
end
/-! flat data hangs on tuples alone -/
mutual
theorem Rp.flat {G G' : Hp} (h : ∀ a xs, G a = some (.tup xs) → G' a = some (.tup xs)) : ∀ {v : V} {d : PyData}, Rp G v d → flat d = true → Rp G' v d
  | _, _, .non, _ => .non
  | _, _, .bl b, _ => .bl b
  | _, _, .int i, _ => .int i
  | _, _, .str s, _ => .str s
  | _, _, .lst e r, f => by simp [Pu.flat] at f
  | _, _, .tup e r, f => .tup (h _ _ e) (RpAll.flat h r (by simpa [Pu.flat] using f))
  | _, _, .dK e r, f => by simp [Pu.flat] at f
  | _, _, .dT e r, f => by simp [Pu.flat] at f
theorem RpAll.flat {G G' : Hp} (h : ∀ a xs, G a = some (.tup xs) → G' a = some (.tup xs)) : ∀ {vs : List V} {ds : List PyData}, RpAll G vs ds → flats ds = true → RpAll G' vs ds
  | _, _, .nil, _ => .nil
  | _, _, .cons a b, f => by
    simp only [Pu.flats, Bool.and_eq_true] at f
    exact .cons (Rp.flat h a f.1) (RpAll.flat h b f.2)
end
theorem RpAll.length {G : Hp} : ∀ {vs : List V} {ds : List PyData}, RpAll G vs ds → vs.length = ds.length
  | _, _, .nil => rfl
  | _, _, .cons _ b => by rw [List.length_cons, List.length_cons, b.length]
theorem RpAll.get {G : Hp} : ∀ {vs : List V} {ds : List PyData} {i : Nat} {d : PyData}, RpAll G vs ds → ds[i]? = some d → ∃ v, vs[i]? = some v ∧ Rp G v d
  | _, _, _, _, .nil, h => by simp at h
  | _, _, 0, _, .cons a _, h => by
    have e := Option.some.inj h
    subst e
    exact ⟨_, rfl, a⟩
  | _, _, i + 1, _, .cons _ b, h => b.get (i := i) h
theorem RpAll.getV {G : Hp} : ∀ {vs : List V} {ds : List PyData} {i : Nat} {v : V}, RpAll G vs ds → vs[i]? = some v → ∃ d, ds[i]? = some d ∧ Rp G v d
  | _, _, _, _, .nil, h => by simp at h
  | _, _, 0, _, .cons a _, h => by
    have e := Option.some.inj h
    subst e
    exact ⟨_, rfl, a⟩
  | _, _, i + 1, _, .cons _ b, h => b.getV (i := i) h
theorem RpAll.append {G : Hp} : ∀ {vs ws : List V} {ds es : List PyData}, RpAll G vs ds → RpAll G ws es → RpAll G (vs ++ ws) (ds ++ es)
  | _, _, _, _, .nil, h => h
  | _, _, _, _, .cons a b, h => .cons a (b.append h)
theorem RpAll.set {G : Hp} {v : V} {d : PyData} (r : Rp G v d) : ∀ {vs : List V} {ds : List PyData} (i : Nat), RpAll G vs ds → RpAll G (vs.set i v) (ds.set i d)
  | _, _, _, .nil => .nil
  | _, _, 0, .cons _ b => .cons r b
  | _, _, i + 1, .cons a b => .cons a (RpAll.set r i b)
theorem RpAll.take {G : Hp} : ∀ {vs : List V} {ds : List PyData} (n : Nat), RpAll G vs ds → RpAll G (vs.take n) (ds.take n)
  | _, _, 0, _ => by simpa using RpAll.nil
  | _, _, n + 1, .nil => .nil
  | _, _, n + 1, .cons a b => .cons a (b.take n)
theorem RpAll.drop {G : Hp} : ∀ {vs : List V} {ds : List PyData} (n : Nat), RpAll G vs ds → RpAll G (vs.drop n) (ds.drop n)
  | _, _, 0, h => h
  | _, _, n + 1, .nil => .nil
  | _, _, n + 1, .cons a b => b.drop n
theorem RpAll.dropLast {G : Hp} {vs : List V} {ds : List PyData} (h : RpAll G vs ds) : RpAll G vs.dropLast ds.dropLast := by
  rw [List.dropLast_eq_take, List.dropLast_eq_take, h.length]
  exact h.take _
theorem RpAll.ints {G : Hp} : ∀ {vs : List V} {ns : List Int}, RpAll G vs (ns.map PyData.int) → vs = ns.map V.int
  | _, [], h => by cases h; rfl
  | _, n :: r, h => by
    cases h with
    | cons a b => cases a; rw [b.ints]; rfl
theorem RpAll.of_ints {G : Hp} : ∀ (ns : List Int), RpAll G (ns.map V.int) (ns.map PyData.int)
  | [] => .nil
  | n :: r => .cons (.int n) (RpAll.of_ints r)

/-! ### the slots of a frame -/
inductive Slot where
  /-- nothing is known of it -/
  | un
  /-- data that nobody changes -/
  | im (d : PyData)
  /-- a list of this frame's own, that it may change; a dict likewise -/
  | ol (xs : List PyData) | od (kvs : List (PyData × PyData))
  /-- the source of draws: its list, the list of its cells -/
  | rng (a c : Addr)
abbrev Slots := List Slot
abbrev Ow := Addr → Option (Nat × Bool)
def mutO : Option (Nat × Bool) → Bool
  | some (_, b) => b
  | none => false
/-- what stands still: all but the hidden (D0) and the frame's own -/
def vw (D0 : Addr → Bool) (o : Ow) (C : Hp) : Hp := fun a => if (D0 a || (o a).isSome) = true then none else C a
/-- what may be read: all but the hidden and the sources of draws -/
def vt (D0 : Addr → Bool) (o : Ow) (C : Hp) : Hp := fun a => if (D0 a || mutO (o a)) = true then none else C a
theorem vw_le_vt {D0 : Addr → Bool} {o : Ow} {C : Hp} : Le (vw D0 o C) (vt D0 o C) := fun a u h => by
  unfold vw at h
  unfold vt
  split at h
  · cases h
  · rename_i hn
    rw [if_neg]
    · exact h
    · intro z
      apply hn
      rw [Bool.or_eq_true] at z ⊢
      rcases z with z | z
      · exact .inl z
      · refine .inr ?_
        cases e : o a with
        | none => rw [e] at z; cases z
        | some _ => rfl
theorem vt_le {D0 : Addr → Bool} {o : Ow} {C : Hp} : Le (vt D0 o C) C := fun a u h => by
  unfold vt at h
  split at h
  · cases h
  · exact h
theorem vw_le {D0 : Addr → Bool} {o : Ow} {C : Hp} : Le (vw D0 o C) C := vw_le_vt.trans vt_le
theorem vw_at {D0 : Addr → Bool} {o : Ow} {C : Hp} {a : Addr} {u : HO} (h1 : D0 a = false) (h2 : o a = none) (h : C a = some u) : vw D0 o C a = some u := by
  unfold vw
  rw [h1, h2]
  exact h

def SlotOk (D0 : Addr → Bool) (C : Hp) (o : Ow) (i : Nat) (x : Option (Option V)) : Slot → Prop
  | .un => True
  | .im d => ∃ v, x = some (some v) ∧ Rp (vw D0 o C) v d
  | .ol xs => ∃ a vs, x = some (some (.ref a)) ∧ o a = some (i, false) ∧ C a = some (.lst vs) ∧ RpAll (vw D0 o C) vs xs
  | .od es => ∃ a, x = some (some (.ref a)) ∧ o a = some (i, false) ∧ ((∃ kvs, C a = some (.dK kvs) ∧ RpK (vw D0 o C) kvs es) ∨ ∃ kvs, C a = some (.dT kvs) ∧ RpT (vw D0 o C) kvs es)
  | .rng a c => ∃ (st ix : Int) (ns : List Int), x = some (some (.ref a)) ∧ o a = some (i, true) ∧ o c = some (i, true) ∧ a ≠ c ∧ C a = some (.lst [.int st, .ref c, .int ix]) ∧ C c = some (.lst (ns.map V.int)) ∧ ns.length ≤ 63

structure Env (D0 : Addr → Bool) (S : Slots) (σ : St) (C : Hp) (o : Ow) : Prop where
  len : σ.length = S.length
  live : ∀ a p, o a = some p → D0 a = false ∧ ∃ u, C a = some u ∧ isTup u = false
  dead : ∀ a, D0 a = true → ∃ u, C a = some u ∧ isTup u = false
  sl : ∀ (i : Nat) (s : Slot), S[i]? = some s → SlotOk D0 C o i (σ[i]?) s

/-- behind an expression: all but the sources of draws stands as it stood -/
def XE (o : Ow) (H H' : Hp) : Prop := ∀ a u, mutO (o a) = false → H a = some u → H' a = some u
theorem XE.refl (o : Ow) (H : Hp) : XE o H H := fun _ _ _ h => h
theorem XE.trans {o : Ow} {H H1 H2 : Hp} (a : XE o H H1) (b : XE o H1 H2) : XE o H H2 := fun x u m h => b x u m (a x u m h)
theorem XE.of {o : Ow} {H H' : Hp} (h : Le H H') : XE o H H' := fun a u _ e => h a u e
theorem XE.vt {D0 : Addr → Bool} {o : Ow} {H H' : Hp} (h : XE o H H') : Le (vt D0 o (co H)) (vt D0 o (co H')) := fun a u e => by
  unfold Pu.vt at e ⊢
  split at e
  · cases e
  · rename_i hn
    rw [if_neg hn]
    have hm : mutO (o a) = false := by
      cases q : mutO (o a) with
      | false => rfl
      | true => exact absurd (by rw [q, Bool.or_true]) hn
    unfold co at e ⊢
    cases q : H a with
    | none => rw [q] at e; cases e
    | some z => rw [h a z hm q]; rw [q] at e; exact e
theorem XE.vw {D0 : Addr → Bool} {o : Ow} {H H' : Hp} (h : XE o H H') : Le (vw D0 o (co H)) (vw D0 o (co H')) := fun a u e => by
  unfold Pu.vw at e ⊢
  split at e
  · cases e
  · rename_i hn
    rw [if_neg hn]
    have hm : mutO (o a) = false := by
      cases q : o a with
      | none => rfl
      | some p => exact absurd (by rw [q]; simp) hn
    unfold co at e ⊢
    cases q : H a with
    | none => rw [q] at e; cases e
    | some z => rw [h a z hm q]; rw [q] at e; exact e
/-- behind a statement: what was nobody's stands as it stood -/
def Fr (o : Ow) (H : Hp) (o' : Ow) (H' : Hp) : Prop := ∀ a u, o a = none → H a = some u → H' a = some u ∧ o' a = none
theorem Fr.refl (o : Ow) (H : Hp) : Fr o H o H := fun _ _ n h => ⟨h, n⟩
theorem Fr.trans {o o1 o2 : Ow} {H H1 H2 : Hp} (a : Fr o H o1 H1) (b : Fr o1 H1 o2 H2) : Fr o H o2 H2 := fun x u n h => let ⟨h1, n1⟩ := a x u n h; b x u n1 h1
theorem XE.fr {o : Ow} {H H' : Hp} (h : XE o H H') : Fr o H o H' := fun a u n e => ⟨h a u (by rw [n]; rfl) e, n⟩
/-- a value stands for d; c: it may be kept (nobody changes what it hangs on) -/
def Val (D0 : Addr → Bool) (o : Ow) (H : Hp) (v : V) (d : PyData) (c : Prop) : Prop := Rp (vt D0 o (co H)) v d ∧ (c → Rp (vw D0 o (co H)) v d)
theorem Val.mono {D0 : Addr → Bool} {o : Ow} {H H' : Hp} {v : V} {d : PyData} {c : Prop} (h : Val D0 o H v d c) (x : XE o H H') : Val D0 o H' v d c := ⟨h.1.mono x.vt, fun hc => (h.2 hc).mono x.vw⟩
theorem Val.of {D0 : Addr → Bool} {o : Ow} {H : Hp} {v : V} {d : PyData} (h : Rp (vw D0 o (co H)) v d) : Val D0 o H v d True := ⟨h.mono vw_le_vt, fun _ => h⟩
theorem Val.imp {D0 : Addr → Bool} {o : Ow} {H : Hp} {v : V} {d : PyData} {c c' : Prop} (h : Val D0 o H v d c) (k : c' → c) : Val D0 o H v d c' := ⟨h.1, fun hc => h.2 (k hc)⟩
/-- flat data may be kept -/
theorem Env.vtw {D0 : Addr → Bool} {S : Slots} {σ : St} {H : Hp} {o : Ow} (E : Env D0 S σ (co H) o) : ∀ a xs, vt D0 o (co H) a = some (.tup xs) → vw D0 o (co H) a = some (.tup xs) := fun a xs e => by
  have e2 := vt_le a _ e
  refine vw_at ?_ ?_ e2
  · cases q : D0 a with
    | false => rfl
    | true =>
      obtain ⟨u, h1, h2⟩ := E.dead a q
      rw [e2] at h1
      cases h1
      cases h2
  · cases q : o a with
    | none => rfl
    | some p =>
      obtain ⟨_, u, h1, h2⟩ := E.live a p q
      rw [e2] at h1
      cases h1
      cases h2
theorem Val.flat {D0 : Addr → Bool} {S : Slots} {σ : St} {H : Hp} {o : Ow} {v : V} {d : PyData} {c : Prop} (E : Env D0 S σ (co H) o) (h : Val D0 o H v d c) : Val D0 o H v d (c ∨ flat d = true) :=
  ⟨h.1, fun z => z.elim h.2 fun f => h.1.flat E.vtw f⟩

/-- the environment behind an expression that changed no source of draws -/
theorem Env.xe {D0 : Addr → Bool} {S : Slots} {σ : St} {H H' : Hp} {o : Ow} (E : Env D0 S σ (co H) o) (h : Le H H') : Env D0 S σ (co H') o := by
  have hc : Le (co H) (co H') := h.co
  have hw : Le (vw D0 o (co H)) (vw D0 o (co H')) := (XE.of h).vw
  refine ⟨E.len, fun a p e => ?_, fun a e => ?_, fun i s e => ?_⟩
  · obtain ⟨h1, u, h2, h3⟩ := E.live a p e
    exact ⟨h1, u, hc a u h2, h3⟩
  · obtain ⟨u, h2, h3⟩ := E.dead a e
    exact ⟨u, hc a u h2, h3⟩
  · have q := E.sl i s e
    cases s with
    | un => trivial
    | im d => obtain ⟨v, h1, h2⟩ := q; exact ⟨v, h1, h2.mono hw⟩
    | ol xs => obtain ⟨a, vs, h1, h2, h3, h4⟩ := q; exact ⟨a, vs, h1, h2, hc _ _ h3, h4.mono hw⟩
    | od es =>
      obtain ⟨a, h1, h2, h3⟩ := q
      refine ⟨a, h1, h2, ?_⟩
      rcases h3 with ⟨kvs, h3, h4⟩ | ⟨kvs, h3, h4⟩
      · exact .inl ⟨kvs, hc _ _ h3, h4.mono hw⟩
      · exact .inr ⟨kvs, hc _ _ h3, h4.mono hw⟩
    | rng a c => obtain ⟨st, ix, ns, h1, h2, h3, h4, h5, h6, h7⟩ := q; exact ⟨st, ix, ns, h1, h2, h3, h4, hc _ _ h5, hc _ _ h6, h7⟩
theorem Le.new {H : Hp} {p : Addr} {u : HO} (h : H p = none) : Le H (upd H p u) := fun a x e => by
  rw [upd_ne (ne_of_none e h)]
  exact e
/-- a new object's address is nobody's -/
theorem Env.new {D0 : Addr → Bool} {S : Slots} {σ : St} {H : Hp} {o : Ow} {p : Addr} (E : Env D0 S σ (co H) o) (h : H p = none) : D0 p = false ∧ o p = none := by
  have h' : co H p = none := co_none.mpr h
  constructor
  · cases q : D0 p with
    | false => rfl
    | true => obtain ⟨u, h1, _⟩ := E.dead p q; rw [h'] at h1; cases h1
  · cases q : o p with
    | none => rfl
    | some r => obtain ⟨_, u, h1, _⟩ := E.live p r q; rw [h'] at h1; cases h1
end Pu

namespace Pu
open PySem L2

/-! ### the judgements -/
/-- an exception: its class, what it carries -/
abbrev XC := Str × List (Str × V)
def XOk (mg : Str → Option Value) (H : Hp) (x : XC) (cls : Value) (d : Option Addr) : Prop := (∃ C, mg x.1 = some (.ref C) ∧ cls = .ref C) ∧ (x.2 = [] ∨ ∃ dd, d = some dd ∧ H dd = some (.xd x.2))
/-- the module's names, what is wanted of an exception -/
structure WM where
  mg : Str → Option Value
  w : WX
abbrev EK := XC → Slots → Prop
abbrev WEx := Slots → (PyData → Prop → Slots → Prop) → EK → Prop
abbrev WLs := Slots → (List PyData → Prop → Slots → Prop) → EK → Prop
abbrev WTx := Slots → (Bool → Slots → Prop) → EK → Prop
/-- the way out by an exception -/
def Xw (W : WM) (D0 : Addr → Bool) (σ : St) (o : Ow) (H : Hp) (B : EK) : Prop :=
  ∀ x S' cls dd H', B x S' → Env D0 S' σ (co H') o → XE o H H' → XOk W.mg H' x cls dd → W.w cls dd σ H'
theorem Xw.on {W : WM} {D0 : Addr → Bool} {σ : St} {o : Ow} {H H1 : Hp} {B : EK} (h : Xw W D0 σ o H B) (x : XE o H H1) : Xw W D0 σ o H1 B :=
  fun a b c d e f g i j => h a b c d e f g (x.trans i) j
def Vals' (D0 : Addr → Bool) (o : Ow) (H : Hp) (vs : List V) (ds : List PyData) (c : Prop) : Prop := RpAll (vt D0 o (co H)) vs ds ∧ (c → RpAll (vw D0 o (co H)) vs ds)
def Snd (W : WM) (t : TE) (w : WEx) : Prop := ∀ (D0 : Addr → Bool) (S : Slots) (σ : St) (H : Hp) (o : Ow) (A : PyData → Prop → Slots → Prop) (B : EK) (Q : VK), Env D0 S σ (co H) o → w S A B →
  (∀ d c S' v H', A d c S' → Env D0 S' σ (co H') o → XE o H H' → Val D0 o H' v d c → Q v H') → Xw W D0 σ o H B → t σ H Q
def SndA (W : WM) (t : TA) (n : Nat) (w : WLs) : Prop := ∀ (D0 : Addr → Bool) (S : Slots) (σ : St) (H : Hp) (o : Ow) (A : List PyData → Prop → Slots → Prop) (B : EK) (Q : List V → Hp → Prop), Env D0 S σ (co H) o → w S A B →
  (∀ ds c S' vs H', ds.length = n → A ds c S' → Env D0 S' σ (co H') o → XE o H H' → Vals' D0 o H' vs ds c → Q vs H') → Xw W D0 σ o H B → t σ H Q
def SndT (W : WM) (t : TT) (w : WTx) : Prop := ∀ (D0 : Addr → Bool) (S : Slots) (σ : St) (H : Hp) (o : Ow) (A : Bool → Slots → Prop) (B : EK) (Q : Bool → Hp → Prop), Env D0 S σ (co H) o → w S A B →
  (∀ b S' H', A b S' → Env D0 S' σ (co H') o → XE o H H' → Q b H') → Xw W D0 σ o H B → t σ H Q
/-- a new list, that nothing else hangs on -/
def SndO (W : WM) (t : TE) (w : WLs) : Prop := ∀ (D0 : Addr → Bool) (S : Slots) (σ : St) (H : Hp) (o : Ow) (A : List PyData → Prop → Slots → Prop) (B : EK) (Q : VK), Env D0 S σ (co H) o → w S A B →
  (∀ ds c S' vs p H1, A ds c S' → Env D0 S' σ (co H1) o → XE o H H1 → H1 p = none → Vals' D0 o H1 vs ds c → Q (.ref p) (upd H1 p (.lst vs))) → Xw W D0 σ o H B → t σ H Q
structure SE (X : Cx) (W : WM) (e : Expr) (w : WEx) : Prop where
  ex : ∃ t, PE X e t ∧ Snd W t w
structure SO (X : Cx) (W : WM) (e : Expr) (w : WLs) : Prop where
  ex : ∃ t, PE X e t ∧ SndO W t w
structure ST (X : Cx) (W : WM) (e : Expr) (w : WTx) : Prop where
  ex : ∃ t, PT X e t ∧ SndT W t w
structure SA (X : Cx) (W : WM) (es : List Expr) (w : WLs) : Prop where
  ex : ∃ t, PA X es t ∧ SndA W t es.length w
/-- where one stands -/
structure At (X : Cx) (W : WM) (k : Nat) : Prop where
  room : Room k X.A
  calm : X.calm = true
  tx : Takes X W.w
  mq : W.mg = X.mg
  nd : X.N.Nodup
  po : PassesOwn (model X.prog X.w) X.A X.env X.xe
theorem At.tk {X : Cx} {W : WM} {k : Nat} (a : At X W k) : ∀ σ, PassesAt (L2.CX X.prog X.w) X σ (WE W.w σ) := fun σ => passAt a.tx σ
theorem At.u64 {X : Cx} {W : WM} {k : Nat} (a : At X W k) : X.A.units + 64 < cLine := a.room.units
theorem At.u65 {X : Cx} {W : WM} {k : Nat} (a : At X W k) : X.A.units + 65 < cLine := by have := a.room.un; omega
theorem At.u1 {X : Cx} {W : WM} {k : Nat} (a : At X W k) : X.A.units + 1 < cLine := by have := a.room.un; omega

section
variable {X : Cx} {W : WM} {k : Nat} {pos : Pos}

/-! ### names and constants -/
def wV (i : Nat) : WEx := fun S A _ => match S[i]? with
  | some (.im d) => A d True S
  | some (.ol xs) => A (.list xs) False S
  | some (.od es) => A (.dict es) False S
  | _ => False
def wC (d : PyData) : WEx := fun S A _ => A d True S
theorem snd_var {i : Nat} : Snd W (tVar i) (wV i) := by
  intro D0 S σ H o A B Q E hw k kx
  unfold wV at hw
  split at hw
  · rename_i d hs
    obtain ⟨v, h1, h2⟩ := E.sl i _ hs
    exact ⟨v, h1, k _ _ _ v H hw E (XE.refl o H) (Val.of h2)⟩
  · rename_i xs hs
    obtain ⟨a, vs, h1, h2, h3, h4⟩ := E.sl i _ hs
    refine ⟨.ref a, h1, k _ _ _ _ H hw E (XE.refl o H) ⟨.lst ?_ (h4.mono vw_le_vt), fun z => z.elim⟩⟩
    unfold vt
    rw [(E.live a _ h2).1, h2]
    exact h3
  · rename_i es hs
    obtain ⟨a, h1, h2, h3⟩ := E.sl i _ hs
    refine ⟨.ref a, h1, k _ _ _ _ H hw E (XE.refl o H) ⟨?_, fun z => z.elim⟩⟩
    have hv : ∀ u, co H a = some u → vt D0 o (co H) a = some u := fun u e => by
      unfold vt
      rw [(E.live a _ h2).1, h2]
      exact e
    rcases h3 with ⟨kvs, h3, h4⟩ | ⟨kvs, h3, h4⟩
    · exact .dK (hv _ h3) (h4.mono vw_le_vt)
    · exact .dT (hv _ h3) (h4.mono vw_le_vt)
  · exact hw.elim
theorem snd_c {v : V} {d : PyData} (h : ∀ G, Rp G v d) : Snd W (tC v) (wC d) := fun D0 S σ H o A B Q E hw k kx => k _ _ _ v H hw E (XE.refl o H) (Val.of (h _))
theorem se_v (i : Nat) {x : Str} {p : Pos} (hN : X.N[i]? = some x := by rfl) (hv : Vis X.env.scope x := by first | exact Or.inl rfl | exact Or.inr (Or.inl rfl) | exact Or.inr (Or.inr rfl)) (hd : (x == ("__debug__" : Str)) = false := by decide)
    (hcd : (x == ("__classdict__" : Str)) = false := by decide) : SE X W (.Name x p) (wV i) := ⟨_, pe_var hN hv hd hcd, snd_var⟩
theorem se_int {i : Int} {j p} : SE X W (.Constant (.int i) j p) (wC (.int i)) := ⟨_, pe_int, snd_c fun _ => .int i⟩
theorem se_bl {b : Bool} {j p} : SE X W (.Constant (.bool b) j p) (wC (.bool b)) := ⟨_, pe_bl, snd_c fun _ => .bl b⟩
theorem se_non {j p} : SE X W (.Constant .none j p) (wC .none) := ⟨_, pe_non, snd_c fun _ => .non⟩
theorem se_str {x : Str} {j p} : SE X W (.Constant (.str x) j p) (wC (.str x)) := ⟨_, pe_str, snd_c fun _ => .str x⟩
/-- a module's number -/
theorem se_gi {x : Str} {i : Int} {t : Tok} {p : Pos} (hm : X.mg x = some (.int i t)) (hg : Gl X x := by rfl) (hd : (x == ("__debug__" : Str)) = false := by decide) : SE X W (.Name x p) (wC (.int i)) := ⟨_, pe_glob hg hm (v := .int i) ⟨t, rfl⟩ hd, snd_c fun _ => .int i⟩

/-! ### operators -/
/-- what an operator makes of two data -/
abbrev R2D := PyData → Prop → PyData → Prop → (PyData → Prop → Prop) → Prop
structure Op2 (X : Cx) (f : Value → Value → Sem Value) (g : R2D) : Prop where
  ex : ∃ r : R2, OpR X f r ∧ ∀ (D0 : Addr → Bool) (S : Slots) (σ : St) (o : Ow) (H : Hp) (x y : V) (dx dy : PyData) (cx cy : Prop) (K : PyData → Prop → Prop) (Q : VK), Env D0 S σ (co H) o → Val D0 o H x dx cx → Val D0 o H y dy cy → g dx cx dy cy K →
    (∀ z dz cz H', K dz cz → Le H H' → Val D0 o H' z dz cz → Q z H') → r x y H Q
def wOp (g : R2D) (wa wb : WEx) : WEx := fun S A B => wa S (fun x cx S1 => wb S1 (fun y cy S2 => g x cx y cy fun z cz => A z cz S2) B) B
theorem snd_op {g : R2D} {ta tb : TE} {wa wb : WEx} {r : R2} (ha : Snd W ta wa) (hb : Snd W tb wb) (hr : ∀ (D0 : Addr → Bool) (S : Slots) (σ : St) (o : Ow) (H : Hp) (x y : V) (dx dy : PyData) (cx cy : Prop) (K : PyData → Prop → Prop) (Q : VK), Env D0 S σ (co H) o → Val D0 o H x dx cx → Val D0 o H y dy cy → g dx cx dy cy K →
    (∀ z dz cz H', K dz cz → Le H H' → Val D0 o H' z dz cz → Q z H') → r x y H Q) : Snd W (tOp r ta tb) (wOp g wa wb) := by
  intro D0 S σ H o A B Q E hw k kx
  refine ha D0 S σ H o _ B _ E hw (fun d c S1 v H1 h1 E1 x1 V1 => ?_) kx
  refine hb D0 S1 σ H1 o _ B _ E1 h1 (fun d2 c2 S2 v2 H2 h2 E2 x2 V2 => ?_) (kx.on x1)
  exact hr D0 S2 σ o H2 v v2 d d2 c c2 _ Q E2 (V1.mono x2) V2 h2 fun z dz cz H' hz le V => k dz cz S2 z H' hz (E2.xe le) ((x1.trans x2).trans (XE.of le)) V
theorem se_op {op : Operator} {g : R2D} {a b : Expr} {wa wb : WEx} (ho : Op2 X (binaryOp op) g) (ha : SE X W a wa) (hb : SE X W b wb) : SE X W (.BinOp a op b pos) (wOp g wa wb) := by
  obtain ⟨ta, pa, sa⟩ := ha.ex
  obtain ⟨tb, pb, sb⟩ := hb.ex
  obtain ⟨r, hr, h⟩ := ho.ex
  exact ⟨_, pe_op hr pa pb, snd_op sa sb h⟩
theorem se_cmp {op : CmpOp} {g : R2D} {a b : Expr} {wa wb : WEx} (ho : Op2 X (compareOp op) g) (ha : SE X W a wa) (hb : SE X W b wb) (hm : behindInMarks op b = false := by first | exact nobehind _ (by decide) (by decide) | rfl) : SE X W (.Compare a [op] [b] pos) (wOp g wa wb) := by
  obtain ⟨ta, pa, sa⟩ := ha.ex
  obtain ⟨tb, pb, sb⟩ := hb.ex
  obtain ⟨r, hr, h⟩ := ho.ex
  exact ⟨_, pe_cmpR hr pa pb hm, snd_op sa sb h⟩
def bl? : PyData → (Bool → Prop) → Prop
  | .bool b, K => K b
  | _, _ => False
theorem bl_rp {G : Hp} {v : V} {d : PyData} {K : Bool → Prop} (r : Rp G v d) (h : bl? d K) : ∃ b, v = .bl b ∧ K b := by
  cases r with
  | bl b => exact ⟨b, rfl, h⟩
  | _ => exact h.elim
/-- a op1 b op2 c -/
def wChain (g g' : R2D) (wa wb wc : WEx) : WEx := fun S A B => wa S (fun x cx S1 => wb S1 (fun y cy S2 => g x cx y cy fun z _ => bl? z fun b => if b = true then wc S2 (fun u cu S3 => g' y cy u cu fun z' cz' => A z' cz' S3) B else A (.bool false) True S2) B) B
theorem se_chain {op op' : CmpOp} {g g' : R2D} {a b c : Expr} {wa wb wc : WEx} (ho : Op2 X (compareOp op) g) (ho' : Op2 X (compareOp op') g') (ha : SE X W a wa) (hb : SE X W b wb) (hc : SE X W c wc)
    (hm : lastMarks [op, op'] [b, c] = false := by with_unfolding_all rfl) : SE X W (.Compare a [op, op'] [b, c] pos) (wChain g g' wa wb wc) := by
  obtain ⟨ta, pa, sa⟩ := ha.ex
  obtain ⟨tb, pb, sb⟩ := hb.ex
  obtain ⟨tc, pc, sc⟩ := hc.ex
  obtain ⟨r, hr, h⟩ := ho.ex
  obtain ⟨r', hr', h'⟩ := ho'.ex
  refine ⟨_, pe_chain hr hr' pa pb pc hm, ?_⟩
  intro D0 S σ H o A B Q E hw k kx
  refine sa D0 S σ H o _ B _ E hw (fun d c S1 v H1 h1 E1 x1 V1 => ?_) kx
  refine sb D0 S1 σ H1 o _ B _ E1 h1 (fun d2 c2 S2 v2 H2 h2 E2 x2 V2 => ?_) (kx.on x1)
  refine h D0 S2 σ o H2 v v2 d d2 c c2 _ _ E2 (V1.mono x2) V2 h2 fun z dz cz H3 hz le V => ?_
  have x3 := (x1.trans x2).trans (XE.of le)
  have E3 := E2.xe le
  have V2' := V2.mono (XE.of le)
  obtain ⟨b, rfl, hz⟩ := bl_rp V.1 hz
  refine ⟨b, rfl, ?_⟩
  cases b with
  | true =>
    rw [if_pos rfl] at hz ⊢
    refine sc D0 S2 σ H3 o _ B _ E3 hz (fun d4 c4 S4 v4 H4 h4 E4 x4 V4 => ?_) (kx.on x3)
    exact h' D0 S4 σ o H4 v2 v4 d2 d4 c2 c4 _ Q E4 (V2'.mono x4) V4 h4 fun z' dz' cz' H' hz' le' V' => k dz' cz' S4 z' H' hz' (E4.xe le') ((x3.trans x4).trans (XE.of le')) V'
  | false =>
    rw [if_neg Bool.false_ne_true] at hz ⊢
    exact k _ _ _ _ H3 hz E3 x3 (Val.of (.bl false))

/-- on two ints -/
def gI (C : Int → Int → Prop) (f : Int → Int → PyData) : R2D := fun x _ y _ K => match x, y with
  | .int i, .int j => C i j ∧ K (f i j) True
  | _, _ => False
theorem op2_I {f : Value → Value → Sem Value} {C : Int → Int → Prop} {gv : Int → Int → V} {gd : Int → Int → PyData} (h : OpR X f (rI C gv)) (hg : ∀ i j G, Rp G (gv i j) (gd i j)) : Op2 X f (gI C gd) := by
  refine ⟨_, h, ?_⟩
  intro D0 S σ o H x y dx dy cx cy K Q E Vx Vy hg' k
  unfold gI at hg'
  split at hg'
  · cases Vx.1
    cases Vy.1
    exact ⟨_, _, rfl, rfl, hg'.1, k _ _ _ H hg'.2 (Le.refl H) (Val.of (hg _ _ _))⟩
  · exact hg'.elim
theorem op2_I0 {f : Value → Value → Sem Value} {gv : Int → Int → V} {gd : Int → Int → PyData} (h : OpR X f (rI0 gv)) (hg : ∀ i j G, Rp G (gv i j) (gd i j)) : Op2 X f (gI (fun _ _ => True) gd) := by
  refine ⟨_, h, ?_⟩
  intro D0 S σ o H x y dx dy cx cy K Q E Vx Vy hg' k
  unfold gI at hg'
  split at hg'
  · cases Vx.1
    cases Vy.1
    exact ⟨_, _, rfl, rfl, k _ _ _ H hg'.2 (Le.refl H) (Val.of (hg _ _ _))⟩
  · exact hg'.elim
def gSub : R2D := gI (fun _ _ => True) fun i j => .int (i - j)
def gMul : R2D := gI CMulW fun i j => .int (i * j)
def gMulS : R2D := gI CMul fun i j => .int (i * j)
def gDiv : R2D := gI CDivW fun i j => .int (i / j)
def gMod : R2D := gI (fun _ j => j ≠ 0) fun i j => .int (i.fmod j)
def gPow : R2D := gI CPow fun i j => .int (i ^ j.toNat)
def gLt : R2D := gI (fun _ _ => True) fun i j => .bool (decide (i < j))
def gLe : R2D := gI (fun _ _ => True) fun i j => .bool (decide (i ≤ j))
def gGt : R2D := gI (fun _ _ => True) fun i j => .bool (decide (j < i))
def gGe : R2D := gI (fun _ _ => True) fun i j => .bool (decide (j ≤ i))
theorem o_sub : Op2 X (binaryOp .Sub) gSub := op2_I0 op_sub fun _ _ _ => .int _
theorem o_mul : Op2 X (binaryOp .Mult) gMul := op2_I op_mulW fun _ _ _ => .int _
theorem o_mulS : Op2 X (binaryOp .Mult) gMulS := op2_I op_mul fun _ _ _ => .int _
theorem o_div : Op2 X (binaryOp .FloorDiv) gDiv := op2_I op_fdivW fun _ _ _ => .int _
theorem o_mod : Op2 X (binaryOp .Mod) gMod := op2_I op_modN fun _ _ _ => .int _
theorem o_pow : Op2 X (binaryOp .Pow) gPow := op2_I op_pow fun _ _ _ => .int _
theorem o_lt : Op2 X (compareOp .Lt) gLt := op2_I0 op_lt fun _ _ _ => .bl _
theorem o_le : Op2 X (compareOp .LtE) gLe := op2_I0 op_le fun _ _ _ => .bl _
theorem o_gt : Op2 X (compareOp .Gt) gGt := op2_I0 op_gt fun _ _ _ => .bl _
theorem o_ge : Op2 X (compareOp .GtE) gGe := op2_I0 op_ge fun _ _ _ => .bl _

/-! sums: ints, lists, tuples, texts -/
def gAdd : R2D := fun x cx y cy K => match x, y with
  | .int i, .int j => K (.int (i + j)) True
  | .list xs, .list ys => xs.length + ys.length ≤ sizeLine ∧ K (.list (xs ++ ys)) ((cx ∨ flats xs = true) ∧ (cy ∨ flats ys = true))
  | .tuple xs, .tuple ys => xs.length + ys.length ≤ sizeLine ∧ K (.tuple (xs ++ ys)) ((cx ∨ flats xs = true) ∧ (cy ∨ flats ys = true))
  | .str s, .str t => s.length + t.length ≤ sizeLine ∧ K (.str (s ++ t)) True
  | _, _ => False
theorem OpR.or {f : Value → Value → Sem Value} {r1 r2 : R2} (h1 : OpR X f r1) (h2 : OpR X f r2) : OpR X f (fun x y H Q => r1 x y H Q ∨ r2 x y H Q) := by
  intro pins s σ H x y v u Q I rx ry h
  rcases h with h | h
  · exact h1 pins s σ H x y v u Q I rx ry h
  · exact h2 pins s σ H x y v u Q I rx ry h
theorem rp_lst {G : Hp} {v : V} {ds : List PyData} (h : Rp G v (.list ds)) : ∃ a vs, v = .ref a ∧ G a = some (.lst vs) ∧ RpAll G vs ds := by
  cases h with
  | lst e r => exact ⟨_, _, rfl, e, r⟩
theorem rp_tup {G : Hp} {v : V} {ds : List PyData} (h : Rp G v (.tuple ds)) : ∃ a vs, v = .ref a ∧ G a = some (.tup vs) ∧ RpAll G vs ds := by
  cases h with
  | tup e r => exact ⟨_, _, rfl, e, r⟩
/-- a list's items, as they may be kept -/
theorem Val.items {D0 : Addr → Bool} {S : Slots} {σ : St} {H : Hp} {o : Ow} {v : V} {ds : List PyData} {c : Prop} (E : Env D0 S σ (co H) o) (h : Val D0 o H v (.list ds) c) :
    ∃ a vs, v = .ref a ∧ H a = some (.lst vs) ∧ RpAll (vt D0 o (co H)) vs ds ∧ (c ∨ flats ds = true → RpAll (vw D0 o (co H)) vs ds) := by
  obtain ⟨a, vs, rfl, e, r⟩ := rp_lst h.1
  have e' := co_lst (vt_le _ _ e)
  refine ⟨a, vs, rfl, e', r, fun z => ?_⟩
  rcases z with z | z
  · obtain ⟨b, ws, eb, e2, r2⟩ := rp_lst (h.2 z)
    cases eb
    have e3 := co_lst (vw_le _ _ e2)
    rw [e'] at e3
    cases e3
    exact r2
  · exact r.flat E.vtw z
theorem Val.titems {D0 : Addr → Bool} {S : Slots} {σ : St} {H : Hp} {o : Ow} {v : V} {ds : List PyData} {c : Prop} (E : Env D0 S σ (co H) o) (h : Val D0 o H v (.tuple ds) c) :
    ∃ a vs, v = .ref a ∧ H a = some (.tup vs) ∧ RpAll (vt D0 o (co H)) vs ds ∧ (c ∨ flats ds = true → RpAll (vw D0 o (co H)) vs ds) := by
  obtain ⟨a, vs, rfl, e, r⟩ := rp_tup h.1
  have e' := co_tup (vt_le _ _ e)
  refine ⟨a, vs, rfl, e', r, fun z => ?_⟩
  rcases z with z | z
  · obtain ⟨b, ws, eb, e2, r2⟩ := rp_tup (h.2 z)
    cases eb
    have e3 := co_tup (vw_le _ _ e2)
    rw [e'] at e3
    cases e3
    exact r2
  · exact r.flat E.vtw z
theorem vt_new {D0 : Addr → Bool} {S : Slots} {σ : St} {H : Hp} {o : Ow} {p : Addr} {u : HO} (E : Env D0 S σ (co H) o) (h : H p = none) : vt D0 o (co (upd H p u)) p = some (core u) := by
  unfold vt
  rw [(E.new h).1, (E.new h).2, co_upd]
  exact upd_same
theorem vw_new {D0 : Addr → Bool} {S : Slots} {σ : St} {H : Hp} {o : Ow} {p : Addr} {u : HO} (E : Env D0 S σ (co H) o) (h : H p = none) : vw D0 o (co (upd H p u)) p = some (core u) := by
  unfold vw
  rw [(E.new h).1, (E.new h).2, co_upd]
  exact upd_same
/-- a new list, a new tuple, as a value -/
theorem Val.newL {D0 : Addr → Bool} {S : Slots} {σ : St} {H : Hp} {o : Ow} {p : Addr} {vs : List V} {ds : List PyData} {c : Prop} (E : Env D0 S σ (co H) o) (h : H p = none) (r : Vals' D0 o H vs ds c) : Val D0 o (upd H p (.lst vs)) (.ref p) (.list ds) c :=
  ⟨.lst (vt_new E h) (r.1.mono (XE.of (Le.new h)).vt), fun hc => .lst (vw_new E h) ((r.2 hc).mono (XE.of (Le.new h)).vw)⟩
theorem Val.newT {D0 : Addr → Bool} {S : Slots} {σ : St} {H : Hp} {o : Ow} {p : Addr} {vs : List V} {ds : List PyData} {c : Prop} (E : Env D0 S σ (co H) o) (h : H p = none) (r : Vals' D0 o H vs ds c) : Val D0 o (upd H p (.tup vs)) (.ref p) (.tuple ds) c :=
  ⟨.tup (vt_new E h) (r.1.mono (XE.of (Le.new h)).vt), fun hc => .tup (vw_new E h) ((r.2 hc).mono (XE.of (Le.new h)).vw)⟩
theorem SqL.at {K : PySem.W.Frag} {H : Hp} {a : Addr} {xs : List V} (h : H a = some (.lst xs)) : SqL K H a xs := .inl (.inl h)
theorem SqT.at {K : PySem.W.Frag} {H : Hp} {a : Addr} {xs : List V} (h : H a = some (.tup xs)) : SqT K H a xs := .inl (.inl h)
theorem o_add : Op2 X (binaryOp .Add) gAdd := by
  refine ⟨_, OpR.or op_add (OpR.or op_cat (OpR.or op_catA op_add_str)), ?_⟩
  intro D0 S σ o H x y dx dy cx cy K Q E Vx Vy hg k
  unfold gAdd at hg
  split at hg
  · cases Vx.1
    cases Vy.1
    exact .inl ⟨_, _, rfl, rfl, k _ _ _ H hg (Le.refl H) (Val.of (.int _))⟩
  · obtain ⟨a, vs, rfl, ea, ra, ca⟩ := Vx.items E
    obtain ⟨b, ws, rfl, eb, rb, cb⟩ := Vy.items E
    refine .inr (.inl ⟨a, b, vs, ws, rfl, rfl, ea, eb, by rw [ra.length, rb.length]; exact hg.1, fun p hp => ?_⟩)
    exact k _ _ _ _ hg.2 (Le.new hp) (Val.newL E hp ⟨ra.append rb, fun z => (ca z.1).append (cb z.2)⟩)
  · obtain ⟨a, vs, rfl, ea, ra, ca⟩ := Vx.titems E
    obtain ⟨b, ws, rfl, eb, rb, cb⟩ := Vy.titems E
    refine .inr (.inr (.inl ⟨a, b, vs, ws, rfl, rfl, SqT.at ea, SqT.at eb, by rw [ra.length, rb.length]; exact hg.1, fun z => ?_, fun _ z => ?_, fun _ _ p hp => ?_⟩))
    · subst z
      cases ra
      refine k _ _ _ H hg.2 (Le.refl H) ?_
      rw [List.nil_append]
      refine ⟨Vy.1, fun z => ?_⟩
      obtain ⟨b', ws', e1, e2, r2⟩ := rp_tup Vy.1
      cases e1
      exact .tup (E.vtw _ _ e2) (by
        have e3 := co_tup (vt_le _ _ e2)
        rw [eb] at e3
        cases e3
        exact cb z.2)
    · subst z
      cases rb
      refine k _ _ _ H hg.2 (Le.refl H) ?_
      rw [List.append_nil]
      refine ⟨Vx.1, fun z => ?_⟩
      obtain ⟨b', ws', e1, e2, r2⟩ := rp_tup Vx.1
      cases e1
      exact .tup (E.vtw _ _ e2) (by
        have e3 := co_tup (vt_le _ _ e2)
        rw [ea] at e3
        cases e3
        exact ca z.1)
    · exact k _ _ _ _ hg.2 (Le.new hp) (Val.newT E hp ⟨ra.append rb, fun z => (ca z.1).append (cb z.2)⟩)
  · cases Vx.1
    cases Vy.1
    exact .inr (.inr (.inr ⟨_, _, rfl, rfl, hg.1, k _ _ _ H hg.2 (Le.refl H) (Val.of (.str _))⟩))
  · exact hg.elim

/-! comparisons of data -/
mutual
theorem Rp.dp {K : PySem.W.Frag} {H : Hp} : ∀ {v : V} {d : PyData}, Rp (co H) v d → d.canLay0 = true → Dp K H v d
  | _, _, .non, _ => .non
  | _, _, .bl b, _ => .bl b
  | _, _, .int i, _ => .int i
  | _, _, .str s, _ => .str s
  | _, _, .lst e r, h => .lst (SqL.at (co_lst e)) (RpAll.dp r (by simpa [PyData.canLay0] using h))
  | _, _, .tup e r, h => .tup (SqT.at (co_tup e)) (RpAll.dp r (by simpa [PyData.canLay0] using h))
  | _, _, .dK e r, h => by simp [PyData.canLay0] at h
  | _, _, .dT e r, h => by simp [PyData.canLay0] at h
theorem RpAll.dp {K : PySem.W.Frag} {H : Hp} : ∀ {vs : List V} {ds : List PyData}, RpAll (co H) vs ds → PyData.canLayAll0 ds = true → DpAll K H vs ds
  | _, _, .nil, _ => .nil
  | _, _, .cons a b, h => by
    simp only [PyData.canLayAll0, Bool.and_eq_true] at h
    exact .cons (Rp.dp a h.1) (RpAll.dp b h.2)
end
theorem Val.dp {K : PySem.W.Frag} {D0 : Addr → Bool} {o : Ow} {H : Hp} {v : V} {d : PyData} {c : Prop} (h : Val D0 o H v d c) (s : SeqAt.shaped d = true) : Dp K H v d :=
  (h.1.mono vt_le).dp (SeqAt.canLay_of_shaped s)
def gEq : R2D := fun x _ y _ K => SeqAt.shaped x = true ∧ SeqAt.shaped y = true ∧ K (.bool (PyData.eqv x y)) True
def gNe : R2D := fun x _ y _ K => SeqAt.shaped x = true ∧ SeqAt.shaped y = true ∧ K (.bool (!PyData.eqv x y)) True
def gIn : R2D := fun x _ y _ K => match y with
  | .list ys => SeqAt.shaped x = true ∧ SeqAt.shaped (.list ys) = true ∧ K (.bool (ys.any fun z => PyData.eqv z x)) True
  | _ => False
def gNotIn : R2D := fun x _ y _ K => match y with
  | .list ys => SeqAt.shaped x = true ∧ SeqAt.shaped (.list ys) = true ∧ K (.bool (!ys.any fun z => PyData.eqv z x)) True
  | _ => False
def gIs : R2D := fun x _ y _ K => match x, y with
  | .none, .none => K (.bool true) True
  | _, .none => K (.bool false) True
  | _, _ => False
def gIsNot : R2D := fun x _ y _ K => match x, y with
  | .none, .none => K (.bool false) True
  | _, .none => K (.bool true) True
  | _, _ => False
theorem o_eq (a : At X W k) : Op2 X (compareOp .Eq) gEq :=
  ⟨_, op_eqD a.u64, fun D0 S σ o H x y dx dy cx cy K Q E Vx Vy hg k => ⟨dx, dy, Vx.dp hg.1, Vy.dp hg.2.1, hg.1, hg.2.1, k _ _ _ H hg.2.2 (Le.refl H) (Val.of (.bl _))⟩⟩
theorem o_ne (a : At X W k) : Op2 X (compareOp .NotEq) gNe :=
  ⟨_, op_neD a.u64, fun D0 S σ o H x y dx dy cx cy K Q E Vx Vy hg k => ⟨dx, dy, Vx.dp hg.1, Vy.dp hg.2.1, hg.1, hg.2.1, k _ _ _ H hg.2.2 (Le.refl H) (Val.of (.bl _))⟩⟩
theorem o_in (a : At X W k) : Op2 X (compareOp .In) gIn :=
  ⟨_, op_inD a.u65, fun D0 S σ o H x y dx dy cx cy K Q E Vx Vy hg k => by
    unfold gIn at hg
    split at hg
    · exact ⟨dx, _, Vx.dp hg.1, Vy.dp hg.2.1, hg.1, hg.2.1, k _ _ _ H hg.2.2 (Le.refl H) (Val.of (.bl _))⟩
    · exact hg.elim⟩
theorem o_notIn (a : At X W k) : Op2 X (compareOp .NotIn) gNotIn :=
  ⟨_, op_notInD a.u65, fun D0 S σ o H x y dx dy cx cy K Q E Vx Vy hg k => by
    unfold gNotIn at hg
    split at hg
    · exact ⟨dx, _, Vx.dp hg.1, Vy.dp hg.2.1, hg.1, hg.2.1, k _ _ _ H hg.2.2 (Le.refl H) (Val.of (.bl _))⟩
    · exact hg.elim⟩
theorem rp_none {G : Hp} {x : V} {d : PyData} (r : Rp G x d) : x = .non ↔ d = .none := by cases r <;> simp
theorem o_is : Op2 X (compareOp .Is) gIs :=
  ⟨_, op_isN, fun D0 S σ o H x y dx dy cx cy K Q E Vx Vy hg k => by
    unfold gIs at hg
    split at hg
    · cases Vx.1; cases Vy.1
      exact ⟨rfl, k _ _ _ H hg (Le.refl H) (Val.of (.bl _))⟩
    · rename_i hn
      cases Vy.1
      refine ⟨rfl, ?_⟩
      rw [decide_eq_false (fun z => hn ((rp_none Vx.1).mp z))]
      exact k _ _ _ H hg (Le.refl H) (Val.of (.bl _))
    · exact hg.elim⟩
theorem o_isNot : Op2 X (compareOp .IsNot) gIsNot :=
  ⟨_, op_notN, fun D0 S σ o H x y dx dy cx cy K Q E Vx Vy hg k => by
    unfold gIsNot at hg
    split at hg
    · cases Vx.1; cases Vy.1
      exact ⟨rfl, k _ _ _ H hg (Le.refl H) (Val.of (.bl _))⟩
    · rename_i hn
      cases Vy.1
      refine ⟨rfl, ?_⟩
      rw [decide_eq_false (fun z => hn ((rp_none Vx.1).mp z))]
      exact k _ _ _ H hg (Le.refl H) (Val.of (.bl _))
    · exact hg.elim⟩

/-! ### and, or, not; tests -/
def wNot (wa : WEx) : WEx := fun S A B => wa S (fun d _ S1 => bl? d fun b => A (.bool (!b)) True S1) B
def wAnd (wa wb : WEx) : WEx := fun S A B => wa S (fun d _ S1 => bl? d fun b => if b = true then wb S1 A B else A (.bool false) True S1) B
def wOr (wa wb : WEx) : WEx := fun S A B => wa S (fun d _ S1 => bl? d fun b => if b = true then A (.bool true) True S1 else wb S1 A B) B
theorem se_not {a : Expr} {wa : WEx} (ha : SE X W a wa) : SE X W (.UnaryOp .Not a pos) (wNot wa) := by
  obtain ⟨ta, pa, sa⟩ := ha.ex
  refine ⟨_, pe_not pa, ?_⟩
  intro D0 S σ H o A B Q E hw k kx
  refine sa D0 S σ H o _ B _ E hw (fun d c S1 v H1 h1 E1 x1 V1 => ?_) kx
  obtain ⟨b, rfl, h⟩ := bl_rp V1.1 h1
  exact ⟨b, rfl, k _ _ _ _ H1 h E1 x1 (Val.of (.bl _))⟩
theorem se_one {op : BoolOp} {a : Expr} {wa : WEx} (ha : SE X W a wa) : SE X W (.BoolOp op [a] pos) wa := by
  obtain ⟨ta, pa, sa⟩ := ha.ex
  exact ⟨_, pe_one pa, sa⟩
theorem se_and {a b : Expr} {rest : List Expr} {wa wb : WEx} (ha : SE X W a wa) (hb : SE X W (.BoolOp .And (b :: rest) pos) wb) : SE X W (.BoolOp .And (a :: b :: rest) pos) (wAnd wa wb) := by
  obtain ⟨ta, pa, sa⟩ := ha.ex
  obtain ⟨tb, pb, sb⟩ := hb.ex
  refine ⟨_, pe_and pa pb, ?_⟩
  intro D0 S σ H o A B Q E hw k kx
  refine sa D0 S σ H o _ B _ E hw (fun d c S1 v H1 h1 E1 x1 V1 => ?_) kx
  obtain ⟨b, rfl, h⟩ := bl_rp V1.1 h1
  refine ⟨b, rfl, ?_⟩
  cases b with
  | true => exact sb D0 S1 σ H1 o A B Q E1 h (fun d c S2 v H2 h2 E2 x2 V2 => k d c S2 v H2 h2 E2 (x1.trans x2) V2) (kx.on x1)
  | false => exact k _ _ _ _ H1 h E1 x1 (Val.of (.bl _))
theorem se_or {a b : Expr} {rest : List Expr} {wa wb : WEx} (ha : SE X W a wa) (hb : SE X W (.BoolOp .Or (b :: rest) pos) wb) : SE X W (.BoolOp .Or (a :: b :: rest) pos) (wOr wa wb) := by
  obtain ⟨ta, pa, sa⟩ := ha.ex
  obtain ⟨tb, pb, sb⟩ := hb.ex
  refine ⟨_, pe_or pa pb, ?_⟩
  intro D0 S σ H o A B Q E hw k kx
  refine sa D0 S σ H o _ B _ E hw (fun d c S1 v H1 h1 E1 x1 V1 => ?_) kx
  obtain ⟨b, rfl, h⟩ := bl_rp V1.1 h1
  refine ⟨b, rfl, ?_⟩
  cases b with
  | true => exact k _ _ _ _ H1 h E1 x1 (Val.of (.bl _))
  | false => exact sb D0 S1 σ H1 o A B Q E1 h (fun d c S2 v H2 h2 E2 x2 V2 => k d c S2 v H2 h2 E2 (x1.trans x2) V2) (kx.on x1)
/-- tests -/
def wB (wa : WEx) : WTx := fun S A B => wa S (fun d _ S1 => bl? d fun b => A b S1) B
def wTNot (wt : WTx) : WTx := fun S A B => wt S (fun b S1 => A (!b) S1) B
def wTAnd (wa wb : WTx) : WTx := fun S A B => wa S (fun b S1 => if b = true then wb S1 A B else A false S1) B
def wTOr (wa wb : WTx) : WTx := fun S A B => wa S (fun b S1 => if b = true then A true S1 else wb S1 A B) B
/-- a list, a tuple, an int by truth -/
def wTru (wa : WEx) : WTx := fun S A B => wa S (fun d _ S1 => match d with
  | .list xs => A (!xs.isEmpty) S1
  | .tuple xs => A (!xs.isEmpty) S1
  | .int i => A (i != 0) S1
  | .bool b => A b S1
  | _ => False) B
theorem st_b {a : Expr} {wa : WEx} (ha : SE X W a wa) (he : ∀ whole, isTrue a X.env whole = (do let v ← whole; standAt a.pos; holding [v] (truthy v)) := by intro _; rfl) : ST X W a (wB wa) := by
  obtain ⟨ta, pa, sa⟩ := ha.ex
  refine ⟨_, pt_val pa he, ?_⟩
  intro D0 S σ H o A B Q E hw k kx
  refine sa D0 S σ H o _ B _ E hw (fun d c S1 v H1 h1 E1 x1 V1 => ?_) kx
  obtain ⟨b, rfl, h⟩ := bl_rp V1.1 h1
  exact ⟨b, rfl, k b S1 H1 h E1 x1⟩
theorem rp_isEmpty {G : Hp} {vs : List V} {ds : List PyData} (r : RpAll G vs ds) : vs.isEmpty = ds.isEmpty := by cases r <;> rfl
theorem st_tru {a : Expr} {wa : WEx} (ha : SE X W a wa) (he : ∀ whole, isTrue a X.env whole = (do let v ← whole; standAt a.pos; holding [v] (truthy v)) := by intro _; rfl) : ST X W a (wTru wa) := by
  obtain ⟨ta, pa, sa⟩ := ha.ex
  refine ⟨_, pt_truth pa he, ?_⟩
  intro D0 S σ H o A B Q E hw k kx
  refine sa D0 S σ H o _ B _ E hw (fun d c S1 v H1 h1 E1 x1 V1 => ?_) kx
  split at h1
  · obtain ⟨a, vs, rfl, e, r, _⟩ := V1.items E1
    exact ⟨_, .inl ⟨vs, SqL.at e, rfl⟩, k _ S1 H1 (by rw [rp_isEmpty r]; exact h1) E1 x1⟩
  · obtain ⟨a, vs, rfl, e, r, _⟩ := V1.titems E1
    exact ⟨_, .inr (.inl ⟨vs, SqT.at e, rfl⟩), k _ S1 H1 (by rw [rp_isEmpty r]; exact h1) E1 x1⟩
  · cases V1.1
    exact ⟨_, rfl, k _ S1 H1 h1 E1 x1⟩
  · cases V1.1
    exact ⟨_, rfl, k _ S1 H1 h1 E1 x1⟩
  · exact h1.elim
theorem st_not {a : Expr} {wa : WTx} (ha : ST X W a wa) : ST X W (.UnaryOp .Not a pos) (wTNot wa) := by
  obtain ⟨ta, pa, sa⟩ := ha.ex
  exact ⟨_, pt_not pa, fun D0 S σ H o A B Q E hw k kx => sa D0 S σ H o _ B _ E hw (fun b S1 H1 h1 E1 x1 => k (!b) S1 H1 h1 E1 x1) kx⟩
structure SW (X : Cx) (W : WM) (e : Expr) (w : WTx) : Prop where
  ex : ∃ t, PW X e t ∧ SndT W t w
theorem st_w {a : Expr} {wa : WTx} (ha : SW X W a wa) : ST X W a wa := by
  obtain ⟨ta, pa, sa⟩ := ha.ex
  exact ⟨_, pa.pt, sa⟩
theorem sw_and1 {a : Expr} {wa : WTx} (ha : ST X W a wa) : SW X W (.BoolOp .And [a] pos) wa := by
  obtain ⟨ta, pa, sa⟩ := ha.ex
  exact ⟨_, pw_and1 pa, sa⟩
theorem sw_or1 {a : Expr} {wa : WTx} (ha : ST X W a wa) : SW X W (.BoolOp .Or [a] pos) wa := by
  obtain ⟨ta, pa, sa⟩ := ha.ex
  exact ⟨_, pw_or1 pa, sa⟩
theorem sw_and {a b : Expr} {rest : List Expr} {wa wb : WTx} (ha : ST X W a wa) (hb : SW X W (.BoolOp .And (b :: rest) pos) wb) : SW X W (.BoolOp .And (a :: b :: rest) pos) (wTAnd wa wb) := by
  obtain ⟨ta, pa, sa⟩ := ha.ex
  obtain ⟨tb, pb, sb⟩ := hb.ex
  refine ⟨_, pw_and pa pb, ?_⟩
  intro D0 S σ H o A B Q E hw k kx
  refine sa D0 S σ H o _ B _ E hw (fun b S1 H1 h1 E1 x1 => ?_) kx
  cases b with
  | true => exact sb D0 S1 σ H1 o A B Q E1 h1 (fun d S2 H2 h2 E2 x2 => k d S2 H2 h2 E2 (x1.trans x2)) (kx.on x1)
  | false => exact k _ _ H1 h1 E1 x1
theorem sw_or {a b : Expr} {rest : List Expr} {wa wb : WTx} (ha : ST X W a wa) (hb : SW X W (.BoolOp .Or (b :: rest) pos) wb) : SW X W (.BoolOp .Or (a :: b :: rest) pos) (wTOr wa wb) := by
  obtain ⟨ta, pa, sa⟩ := ha.ex
  obtain ⟨tb, pb, sb⟩ := hb.ex
  refine ⟨_, pw_or pa pb, ?_⟩
  intro D0 S σ H o A B Q E hw k kx
  refine sa D0 S σ H o _ B _ E hw (fun b S1 H1 h1 E1 x1 => ?_) kx
  cases b with
  | true => exact k _ _ H1 h1 E1 x1
  | false => exact sb D0 S1 σ H1 o A B Q E1 h1 (fun d S2 H2 h2 E2 x2 => k d S2 H2 h2 E2 (x1.trans x2)) (kx.on x1)
def wIf (wt : WTx) (wa wb : WEx) : WEx := fun S A B => wt S (fun b S1 => if b = true then wa S1 A B else wb S1 A B) B
theorem se_if {c a b : Expr} {wt : WTx} {wa wb : WEx} (hc : ST X W c wt) (ha : SE X W a wa) (hb : SE X W b wb) : SE X W (.IfExp c a b pos) (wIf wt wa wb) := by
  obtain ⟨tc, pc, sc⟩ := hc.ex
  obtain ⟨ta, pa, sa⟩ := ha.ex
  obtain ⟨tb, pb, sb⟩ := hb.ex
  refine ⟨_, pe_ifExp pc pa pb, ?_⟩
  intro D0 S σ H o A B Q E hw k kx
  refine sc D0 S σ H o _ B _ E hw (fun b S1 H1 h1 E1 x1 => ?_) kx
  cases b with
  | true => exact sa D0 S1 σ H1 o A B Q E1 h1 (fun d c S2 v H2 h2 E2 x2 V2 => k d c S2 v H2 h2 E2 (x1.trans x2) V2) (kx.on x1)
  | false => exact sb D0 S1 σ H1 o A B Q E1 h1 (fun d c S2 v H2 h2 E2 x2 V2 => k d c S2 v H2 h2 E2 (x1.trans x2) V2) (kx.on x1)

/-! ### argument lists, displays -/
def wNil : WLs := fun S A _ => A [] True S
def wCons (we : WEx) (wr : WLs) : WLs := fun S A B => we S (fun d c S1 => wr S1 (fun ds c' S2 => A (d :: ds) ((c ∨ flat d = true) ∧ c') S2) B) B
theorem sa_nil : SA X W [] wNil := ⟨_, pa_nil, fun D0 S σ H o A B Q E hw k kx => k _ _ _ _ H rfl hw E (XE.refl o H) ⟨.nil, fun _ => .nil⟩⟩
theorem sa_cons {e : Expr} {es : List Expr} {we : WEx} {wr : WLs} (he : SE X W e we) (hr : SA X W es wr) (hs : starEach (e :: es) X.env = (false, eval e X.env) :: starEach es X.env := by rfl) : SA X W (e :: es) (wCons we wr) := by
  obtain ⟨te, pe, se⟩ := he.ex
  obtain ⟨tr, pr, sr⟩ := hr.ex
  refine ⟨_, pa_cons pe pr hs, ?_⟩
  intro D0 S σ H o A B Q E hw k kx
  refine se D0 S σ H o _ B _ E hw (fun d c S1 v H1 h1 E1 x1 V1 => ?_) kx
  refine sr D0 S1 σ H1 o _ B _ E1 h1 (fun ds c2 S2 vs H2 hl h2 E2 x2 V2 => ?_) (kx.on x1)
  have V1' := (V1.mono x2).flat E2
  exact k _ _ S2 _ H2 (by rw [List.length_cons, List.length_cons, hl]) h2 E2 (x1.trans x2) ⟨.cons V1'.1 V2.1, fun z => .cons (V1'.2 z.1) (V2.2 z.2)⟩
def wTup (wa : WLs) : WEx := fun S A B => wa S (fun ds c S1 => ds.length ≤ sizeLine ∧ A (.tuple ds) c S1) B
def wLst (wa : WLs) : WLs := fun S A B => wa S (fun ds c S1 => ds.length ≤ sizeLine ∧ A ds c S1) B
def wO (wa : WLs) : WEx := fun S A B => wa S (fun ds c S1 => A (.list ds) c S1) B
theorem se_tup {es : List Expr} {wa : WLs} {x1} (h : SA X W es wa) : SE X W (.Tuple es x1 pos) (wTup wa) := by
  obtain ⟨ta, pa, sa⟩ := h.ex
  refine ⟨_, pe_tup pa, ?_⟩
  intro D0 S σ H o A B Q E hw k kx
  refine sa D0 S σ H o _ B _ E hw (fun ds c S1 vs H1 hl h1 E1 x1 V1 => ?_) kx
  exact ⟨by rw [V1.1.length]; exact h1.1, fun p hp => k _ _ S1 _ _ h1.2 (E1.xe (Le.new hp)) (x1.trans (XE.of (Le.new hp))) (Val.newT E1 hp V1)⟩
theorem so_lst {es : List Expr} {wa : WLs} (h : SA X W es wa) : SO X W (.List es pos) (wLst wa) := by
  obtain ⟨ta, pa, sa⟩ := h.ex
  refine ⟨_, pe_lst pa, ?_⟩
  intro D0 S σ H o A B Q E hw k kx
  refine sa D0 S σ H o _ B _ E hw (fun ds c S1 vs H1 hl h1 E1 x1 V1 => ?_) kx
  exact ⟨by rw [V1.1.length]; exact h1.1, fun p hp => k _ _ S1 _ p H1 h1.2 E1 x1 hp V1⟩
theorem se_o {e : Expr} {wa : WLs} (h : SO X W e wa) : SE X W e (wO wa) := by
  obtain ⟨ta, pa, sa⟩ := h.ex
  refine ⟨_, pa, ?_⟩
  intro D0 S σ H o A B Q E hw k kx
  exact sa D0 S σ H o _ B _ E hw (fun ds c S1 vs p H1 h1 E1 x1 hp V1 => k _ _ S1 _ _ h1 (E1.xe (Le.new hp)) (x1.trans (XE.of (Le.new hp))) (Val.newL E1 hp V1)) kx
end
end Pu

namespace Pu
open PySem L2
section
variable {X : Cx} {W : WM} {k : Nat} {pos : Pos}

/-! ### built-in functions by name -/
abbrev RD := List PyData → Prop → (PyData → Prop → Prop) → Prop
structure Fn (X : Cx) (f : Value) (g : RD) : Prop where
  ex : ∃ r, CallR X f r ∧ ∀ (D0 : Addr → Bool) (S : Slots) (σ : St) (o : Ow) (H : Hp) (vs : List V) (ds : List PyData) (c : Prop) (K : PyData → Prop → Prop) (Q : VK), Env D0 S σ (co H) o → Vals' D0 o H vs ds c → g ds c K →
    (∀ z dz cz H', K dz cz → Le H H' → Val D0 o H' z dz cz → Q z H') → r vs H Q
/-- .. that make a new list -/
abbrev RDL := List PyData → Prop → (List PyData → Prop → Prop) → Prop
structure FnO (X : Cx) (f : Value) (g : RDL) : Prop where
  ex : ∃ r, CallR X f r ∧ ∀ (D0 : Addr → Bool) (S : Slots) (σ : St) (o : Ow) (H : Hp) (vs : List V) (ds : List PyData) (c : Prop) (K : List PyData → Prop → Prop) (Q : VK), Env D0 S σ (co H) o → Vals' D0 o H vs ds c → g ds c K →
    (∀ zs cz ws p H1, K zs cz → Le H H1 → H1 p = none → Vals' D0 o H1 ws zs cz → Q (.ref p) (upd H1 p (.lst ws))) → r vs H Q
def wFn (g : RD) (wa : WLs) : WEx := fun S A B => wa S (fun ds c S1 => g ds c fun z cz => A z cz S1) B
def wFnO (g : RDL) (wa : WLs) : WLs := fun S A B => wa S (fun ds c S1 => g ds c fun zs cz => A zs cz S1) B
theorem snd_fn {g : RD} {wa : WLs} {ta : TA} {r : List V → Hp → VK → Prop} {n : Nat} (sa : SndA W ta n wa) (hr : ∀ (D0 : Addr → Bool) (S : Slots) (σ : St) (o : Ow) (H : Hp) (vs : List V) (ds : List PyData) (c : Prop) (K : PyData → Prop → Prop) (Q : VK), Env D0 S σ (co H) o → Vals' D0 o H vs ds c → g ds c K →
    (∀ z dz cz H', K dz cz → Le H H' → Val D0 o H' z dz cz → Q z H') → r vs H Q) : Snd W (tCB r ta) (wFn g wa) := by
  intro D0 S σ H o A B Q E hw k kx
  refine sa D0 S σ H o _ B _ E hw (fun ds c S1 vs H1 hl h1 E1 x1 V1 => ?_) kx
  exact hr D0 S1 σ o H1 vs ds c _ Q E1 V1 h1 fun z dz cz H' hz le V => k _ _ S1 z H' hz (E1.xe le) (x1.trans (XE.of le)) V
theorem se_fb {id : String} {x : Str} {p : Pos} {e : Expr} {es : List Expr} {g : RD} {wa : WLs} (hc : Fn X (.builtin id) g) (hm : X.mg x = none) (hv : bootBuiltins x = some (.builtin id)) (ha : SA X W (e :: es) wa) (hg : Gl X x := by rfl) (hn : x ≠ "__name__" := by decide) (hdb : (x == ("__debug__" : Str)) = false := by decide)
    (he : starEach (e :: es) X.env = (false, eval e X.env) :: starEach es X.env := by rfl) (hpl : (backTo pos (starEach es X.env)).any (·.1) = false := by rfl) : SE X W (.Call (.Name x p) (e :: es) [] pos) (wFn g wa) := by
  obtain ⟨ta, pa, sa⟩ := ha.ex
  obtain ⟨r, hr, h⟩ := hc.ex
  exact ⟨_, pe_callB hr hg hm hv pa hn hdb he hpl, snd_fn sa h⟩
theorem se_ft {T : String} {x : Str} {p : Pos} {e : Expr} {es : List Expr} {g : RD} {wa : WLs} (hc : Fn X (.type T) g) (hm : X.mg x = none) (hv : bootBuiltins x = some (.type T)) (ha : SA X W (e :: es) wa) (hg : Gl X x := by rfl) (hn : x ≠ "__name__" := by decide) (hdb : (x == ("__debug__" : Str)) = false := by decide)
    (he : starEach (e :: es) X.env = (false, eval e X.env) :: starEach es X.env := by rfl) (hpl : (backTo pos (starEach es X.env)).any (·.1) = false := by rfl) : SE X W (.Call (.Name x p) (e :: es) [] pos) (wFn g wa) := by
  obtain ⟨ta, pa, sa⟩ := ha.ex
  obtain ⟨r, hr, h⟩ := hc.ex
  exact ⟨_, pe_callTy hr hg hm hv pa hn hdb he hpl, snd_fn sa h⟩
theorem snd_fnO {g : RDL} {wa : WLs} {ta : TA} {r : List V → Hp → VK → Prop} {n : Nat} (sa : SndA W ta n wa) (hr : ∀ (D0 : Addr → Bool) (S : Slots) (σ : St) (o : Ow) (H : Hp) (vs : List V) (ds : List PyData) (c : Prop) (K : List PyData → Prop → Prop) (Q : VK), Env D0 S σ (co H) o → Vals' D0 o H vs ds c → g ds c K →
    (∀ zs cz ws p H1, K zs cz → Le H H1 → H1 p = none → Vals' D0 o H1 ws zs cz → Q (.ref p) (upd H1 p (.lst ws))) → r vs H Q) : SndO W (tCB r ta) (wFnO g wa) := by
  intro D0 S σ H o A B Q E hw k kx
  refine sa D0 S σ H o _ B _ E hw (fun ds c S1 vs H1 hl h1 E1 x1 V1 => ?_) kx
  exact hr D0 S1 σ o H1 vs ds c _ Q E1 V1 h1 fun zs cz ws p H2 hz le hp V => k _ _ S1 ws p H2 hz (E1.xe le) (x1.trans (XE.of le)) hp V
theorem so_fb {id : String} {x : Str} {p : Pos} {e : Expr} {es : List Expr} {g : RDL} {wa : WLs} (hc : FnO X (.builtin id) g) (hm : X.mg x = none) (hv : bootBuiltins x = some (.builtin id)) (ha : SA X W (e :: es) wa) (hg : Gl X x := by rfl) (hn : x ≠ "__name__" := by decide) (hdb : (x == ("__debug__" : Str)) = false := by decide)
    (he : starEach (e :: es) X.env = (false, eval e X.env) :: starEach es X.env := by rfl) (hpl : (backTo pos (starEach es X.env)).any (·.1) = false := by rfl) : SO X W (.Call (.Name x p) (e :: es) [] pos) (wFnO g wa) := by
  obtain ⟨ta, pa, sa⟩ := ha.ex
  obtain ⟨r, hr, h⟩ := hc.ex
  exact ⟨_, pe_callB hr hg hm hv pa hn hdb he hpl, snd_fnO sa h⟩
theorem so_ft {T : String} {x : Str} {p : Pos} {e : Expr} {es : List Expr} {g : RDL} {wa : WLs} (hc : FnO X (.type T) g) (hm : X.mg x = none) (hv : bootBuiltins x = some (.type T)) (ha : SA X W (e :: es) wa) (hg : Gl X x := by rfl) (hn : x ≠ "__name__" := by decide) (hdb : (x == ("__debug__" : Str)) = false := by decide)
    (he : starEach (e :: es) X.env = (false, eval e X.env) :: starEach es X.env := by rfl) (hpl : (backTo pos (starEach es X.env)).any (·.1) = false := by rfl) : SO X W (.Call (.Name x p) (e :: es) [] pos) (wFnO g wa) := by
  obtain ⟨ta, pa, sa⟩ := ha.ex
  obtain ⟨r, hr, h⟩ := hc.ex
  exact ⟨_, pe_callTy hr hg hm hv pa hn hdb he hpl, snd_fnO sa h⟩

/-! ### defs of the text -/
/-- what a def makes of its arguments: the wish for its value, the wish for an exception -/
abbrev Spc := List PyData → (PyData → Prop) → (XC → Prop) → Prop
def hid (D0 : Addr → Bool) (C : Hp) : Hp := fun a => if D0 a = true then none else C a
/-- the promise of a def that changes nothing; n: how many parameters -/
def spOf (mg : Str → Option Value) (n : Nat) (sp : Spc) : Sp := fun vs H Q E => ∃ (ds : List PyData) (D0 : Addr → Bool) (A : PyData → Prop) (B : XC → Prop), ds.length = n ∧ (∀ a, D0 a = true → ∃ u, co H a = some u ∧ isTup u = false) ∧ RpAll (hid D0 (co H)) vs ds ∧ sp ds A B ∧
  (∀ d v H', A d → Le H H' → Rp (hid D0 (co H')) v d → Q v H') ∧ (∀ x cls dd H', B x → Le H H' → XOk mg H' x cls dd → E cls dd H')
theorem spOf_len {mg : Str → Option Value} {n : Nat} {sp : Spc} {vs : List V} {H : Hp} {Q : VK} {E : XK} (h : spOf mg n sp vs H Q E) : vs.length = n := by
  obtain ⟨ds, D0, A, B, h1, h2, h3, _⟩ := h
  rw [h3.length, h1]
def wCall (sp : Spc) (wa : WLs) : WEx := fun S A B => wa S (fun ds c S1 => sp ds (fun d => A d c S1) (fun x => B x S1)) B
theorem hid_vw {D0 : Addr → Bool} {o : Ow} {C : Hp} : hid (fun a => D0 a || (o a).isSome) C = vw D0 o C := rfl
theorem hid_vt {D0 : Addr → Bool} {o : Ow} {C : Hp} : hid (fun a => D0 a || mutO (o a)) C = vt D0 o C := rfl
theorem Env.deadV {D0 : Addr → Bool} {S : Slots} {σ : St} {C : Hp} {o : Ow} (E : Env D0 S σ C o) : ∀ a, (D0 a || (o a).isSome) = true → ∃ u, C a = some u ∧ isTup u = false := fun a h => by
  rw [Bool.or_eq_true] at h
  rcases h with h | h
  · exact E.dead a h
  · cases e : o a with
    | none => rw [e] at h; cases h
    | some p => exact (E.live a p e).2
theorem Env.deadM {D0 : Addr → Bool} {S : Slots} {σ : St} {C : Hp} {o : Ow} (E : Env D0 S σ C o) : ∀ a, (D0 a || mutO (o a)) = true → ∃ u, C a = some u ∧ isTup u = false := fun a h => by
  rw [Bool.or_eq_true] at h
  rcases h with h | h
  · exact E.dead a h
  · cases e : o a with
    | none => rw [e] at h; cases h
    | some p => exact (E.live a p e).2
/-- a def as it stands, with its promise -/
structure Def (P : Program) (w : World) (K : PySem.W.Frag) (mg : Str → Option Value) (base : Heap) (k : Nat) (x : Str) (n : Nat) (sp : Sp) : Prop where
  ex : ∃ (f : Addr) (fd : FuncData) (ps : List Str), FnOk P w K mg base (L2.CX P w) k f fd ps sp ∧ mg x = some (.ref f) ∧ PySem.W.keepIn K (.ref f) = true ∧ Binds K fd ps [] ∧ ps.length = n
theorem se_call {j n : Nat} {sp : Spc} {x : Str} {p : Pos} {e : Expr} {es : List Expr} {wa : WLs} (a : At X W k) (F : Def X.prog X.w X.K X.mg X.base j x n (spOf X.mg n sp)) (hj : j ≤ k) (ha : SA X W (e :: es) wa) (hg : Gl X x := by rfl) (hdb : (x == ("__debug__" : Str)) = false := by decide)
    (he : starEach (e :: es) X.env = (false, eval e X.env) :: starEach es X.env := by rfl) (hpl : (backTo pos (starEach es X.env)).any (·.1) = false := by rfl) (hn : (e :: es).length = n := by rfl) : SE X W (.Call (.Name x p) (e :: es) [] pos) (wCall sp wa) := by
  obtain ⟨ta, pa, sa⟩ := ha.ex
  obtain ⟨f, fd, ps, G, hm, hk, hb, hps⟩ := F.ex
  refine ⟨_, pe_callS G (a.room.mono hj) hg hm hk hb a.tk pa hdb he hpl, ?_⟩
  intro D0 S σ H o A B Q E hw kk kx
  refine sa D0 S σ H o _ B _ E hw (fun ds c S1 vs H1 hl h1 E1 x1 V1 => ?_) kx
  have hl := hl.trans hn
  have ex : ∀ x cls dd H', B x S1 → Le H1 H' → XOk X.mg H' x cls dd → W.w cls dd σ H' := fun x cls dd H' hx le ok => kx x S1 cls dd H' hx (E1.xe le) (x1.trans (XE.of le)) (by rw [a.mq]; exact ok)
  by_cases hc : c
  · refine ⟨ds, fun a => D0 a || (o a).isSome, _, _, hl, E1.deadV, V1.2 hc, h1, fun d v H' hd le r => ?_, fun x cls dd H' hx le ok => ex x cls dd H' hx le ok⟩
    exact kk d c S1 v H' hd (E1.xe le) (x1.trans (XE.of le)) ⟨Rp.mono vw_le_vt r, fun _ => r⟩
  · refine ⟨ds, fun a => D0 a || mutO (o a), _, _, hl, E1.deadM, V1.1, h1, fun d v H' hd le r => ?_, fun x cls dd H' hx le ok => ex x cls dd H' hx le ok⟩
    exact kk d c S1 v H' hd (E1.xe le) (x1.trans (XE.of le)) ⟨r, fun z => absurd z hc⟩

/-! ### places -/
def atD (xs : List PyData) (i : Int) : Option PyData := (ixN xs.length i).bind fun j => xs[j]?
theorem rp_at {G : Hp} {vs : List V} {ds : List PyData} {i : Int} {d : PyData} (r : RpAll G vs ds) (h : atD ds i = some d) : ∃ v, atI vs i = some v ∧ Rp G v d := by
  unfold atD at h
  unfold atI
  rw [r.length]
  cases e : ixN ds.length i with
  | none => rw [e] at h; cases h
  | some j =>
    rw [e] at h
    obtain ⟨v, hv, rv⟩ := r.get (i := j) (d := d) h
    exact ⟨v, hv, rv⟩
theorem rp_at2 {G G' : Hp} {vs : List V} {ds : List PyData} {i : Int} {d : PyData} {v : V} (r : RpAll G vs ds) (h : atD ds i = some d) (hv : atI vs i = some v) : Rp G v d := by
  obtain ⟨v', h1, h2⟩ := rp_at r h
  rw [hv] at h1
  cases h1
  exact h2
def wIx (wa wb : WEx) : WEx := fun S A B => wa S (fun x cx S1 => wb S1 (fun y _ S2 => match x, y with
  | .list xs, .int i => ∃ d, atD xs i = some d ∧ A d (cx ∨ flats xs = true) S2
  | .tuple xs, .int i => ∃ d, atD xs i = some d ∧ A d (cx ∨ flats xs = true) S2
  | .str s, .int i => s.length ≤ sizeLine ∧ ∃ z, atI s.cps.toList i = some z ∧ A (.str ⟨#[z]⟩) True S2
  | _, _ => False) B) B
theorem se_ix {a b : Expr} {wa wb : WEx} (ha : SE X W a wa) (hb : SE X W b wb) (hs : PlainIx b := by exact fun _ _ => rfl) : SE X W (.Subscript a b pos) (wIx wa wb) := by
  obtain ⟨ta, pa, sa⟩ := ha.ex
  obtain ⟨tb, pb, sb⟩ := hb.ex
  refine ⟨_, pe_ix ix_seq pa pb hs, ?_⟩
  intro D0 S σ H o A B Q E hw k kx
  refine sa D0 S σ H o _ B _ E hw (fun x cx S1 v H1 h1 E1 x1 V1 => ?_) kx
  refine sb D0 S1 σ H1 o _ B _ E1 h1 (fun y cy S2 u H2 h2 E2 x2 V2 => ?_) (kx.on x1)
  have V1' := V1.mono x2
  split at h2
  · obtain ⟨d, hd, h2⟩ := h2
    cases V2.1
    obtain ⟨a, vs, rfl, e, r, c⟩ := V1'.items E2
    obtain ⟨w', e1, r1⟩ := rp_at r hd
    exact .inl ⟨a, vs, _, w', rfl, rfl, SqL.at e, e1, k _ _ S2 _ H2 h2 E2 (x1.trans x2) ⟨r1, fun z => rp_at2 (G' := co H2) (c z) hd e1⟩⟩
  · obtain ⟨d, hd, h2⟩ := h2
    cases V2.1
    obtain ⟨a, vs, rfl, e, r, c⟩ := V1'.titems E2
    obtain ⟨w', e1, r1⟩ := rp_at r hd
    exact .inr (.inl ⟨a, vs, _, w', rfl, rfl, SqT.at e, e1, k _ _ S2 _ H2 h2 E2 (x1.trans x2) ⟨r1, fun z => rp_at2 (G' := co H2) (c z) hd e1⟩⟩)
  · obtain ⟨hz, z, hd, h2⟩ := h2
    cases V2.1
    cases V1'.1
    exact .inr (.inr ⟨_, _, z, rfl, rfl, hz, hd, k _ _ S2 _ H2 h2 E2 (x1.trans x2) (Val.of (.str _))⟩)
  · exact h2.elim

/-! ### targets; L: the slots that may be stored -/
abbrev WTg := PyData → Prop → Slots → (Slots → Prop) → Prop
abbrev WTgs := List PyData → Prop → Slots → (Slots → Prop) → Prop
/-- but for L the frame is as it was -/
structure Kept (L : List Nat) (S : Slots) (σ : St) (S' : Slots) (σ' : St) : Prop where
  ln : σ'.length = σ.length
  st : ∀ j, j ∉ L → σ'[j]? = σ[j]?
  sl : ∀ j, j ∉ L → S'[j]? = S[j]?
theorem Kept.refl (L : List Nat) (S : Slots) (σ : St) : Kept L S σ S σ := ⟨rfl, fun _ _ => rfl, fun _ _ => rfl⟩
theorem Kept.trans {L M : List Nat} {S S1 S2 : Slots} {σ σ1 σ2 : St} (a : Kept L S σ S1 σ1) (b : Kept M S1 σ1 S2 σ2) : Kept (L ++ M) S σ S2 σ2 :=
  ⟨b.ln.trans a.ln, fun j h => (b.st j fun z => h (List.mem_append_right _ z)).trans (a.st j fun z => h (List.mem_append_left _ z)), fun j h => (b.sl j fun z => h (List.mem_append_right _ z)).trans (a.sl j fun z => h (List.mem_append_left _ z))⟩
def SndG (L : List Nat) (g : TG) (w : WTg) : Prop := ∀ (D0 : Addr → Bool) (S : Slots) (σ : St) (H : Hp) (o : Ow) (v : V) (d : PyData) (c : Prop) (K : Slots → Prop) (Q : St → Hp → Prop), Env D0 S σ (co H) o → Val D0 o H v d c → w d c S K →
  (∀ S' σ', K S' → Env D0 S' σ' (co H) o → Kept L S σ S' σ' → Q σ' H) → g v σ H Q
def SndGs (L : List Nat) (g : TGs) (w : WTgs) : Prop := ∀ (D0 : Addr → Bool) (S : Slots) (σ : St) (H : Hp) (o : Ow) (vs : List V) (ds : List PyData) (c : Prop) (K : Slots → Prop) (Q : St → Hp → Prop), Env D0 S σ (co H) o → Vals' D0 o H vs ds c → w ds c S K →
  (∀ S' σ', K S' → Env D0 S' σ' (co H) o → Kept L S σ S' σ' → Q σ' H) → g vs σ H Q
structure SG (X : Cx) (tg : Expr) (L : List Nat) (w : WTg) : Prop where
  ex : ∃ t, PG X tg t ∧ SndG L t w
structure SGs (X : Cx) (tgs : List Expr) (L : List Nat) (w : WTgs) : Prop where
  ex : ∃ t, PGs X tgs t ∧ SndGs L t w
/-- slot i holds data -/
theorem Env.put {D0 : Addr → Bool} {S : Slots} {σ : St} {C : Hp} {o : Ow} {v : V} {d : PyData} (E : Env D0 S σ C o) (i : Nat) (hr : Rp (vw D0 o C) v d) : Env D0 (S.set i (.im d)) (σ.set i (some v)) C o := by
  refine ⟨by rw [List.length_set, List.length_set]; exact E.len, E.live, E.dead, fun j s h => ?_⟩
  by_cases e : i = j
  · subst e
    have hi : i < S.length := by
      have := List.getElem?_eq_some_iff.mp h
      obtain ⟨h1, _⟩ := this
      rw [List.length_set] at h1
      exact h1
    rw [List.getElem?_set_self hi] at h
    cases h
    exact ⟨v, by rw [List.getElem?_set_self (by rw [E.len]; exact hi)], hr⟩
  · rw [List.getElem?_set_ne e] at h ⊢
    exact E.sl j s h
def wN (i : Nat) : WTg := fun d c S K => (c ∨ flat d = true) ∧ K (S.set i (.im d))
theorem sg_n (i : Nat) {x : Str} {p : Pos} (nd : X.N.Nodup) (hi : X.N[i]? = some x := by rfl) (hx : Loc X.env.scope x := by first | exact Or.inl rfl | exact Or.inr rfl) (hf : X.fn x = true ∨ X.env.scope.names.lookup x = some .local := by first | exact .inl rfl | exact .inr rfl) : SG X (.Name x p) [i] (wN i) := by
  refine ⟨_, pg_name nd hi hx hf, ?_⟩
  intro D0 S σ H o v d c K Q E V hw k
  refine k _ _ hw.2 (E.put i ((V.flat E).2 hw.1)) ⟨by rw [List.length_set], fun j hj => ?_, fun j hj => ?_⟩
  · rw [List.getElem?_set_ne (fun z => hj (by rw [z]; exact List.mem_cons_self))]
  · rw [List.getElem?_set_ne (fun z => hj (by rw [z]; exact List.mem_cons_self))]
def wGNil : WTgs := fun ds _ S K => ds = [] ∧ K S
def wGCons (w : WTg) (ws : WTgs) : WTgs := fun ds c S K => match ds with
  | d :: r => w d c S fun S1 => ws r c S1 K
  | [] => False
theorem sgs_nil : SGs X [] [] wGNil := ⟨_, pgs_nil, fun D0 S σ H o vs ds c K Q E V hw k => by
  obtain ⟨rfl, hw⟩ := hw
  have e := V.1.length
  exact ⟨List.eq_nil_of_length_eq_zero e, k _ _ hw E (Kept.refl _ _ _)⟩⟩
theorem sgs_cons {t : Expr} {ts : List Expr} {L M : List Nat} {w : WTg} {ws : WTgs} (h1 : SG X t L w) (h2 : SGs X ts M ws)
    (hs : (assignEach (t :: ts) X.env).map (·.2) = assign t X.env :: (assignEach ts X.env).map (·.2) := by rfl) : SGs X (t :: ts) (L ++ M) (wGCons w ws) := by
  obtain ⟨g, pg, sg⟩ := h1.ex
  obtain ⟨gs, pgs, sgs⟩ := h2.ex
  refine ⟨_, pgs_cons pg pgs hs, ?_⟩
  intro D0 S σ H o vs ds c K Q E V hw k
  unfold wGCons at hw
  split at hw
  · rename_i d r
    obtain ⟨V1, V2⟩ := V
    cases V1 with
    | cons a b =>
      refine ⟨_, _, rfl, ?_⟩
      refine sg D0 S σ H o _ d c _ _ E ⟨a, fun z => by cases V2 z with | cons a' b' => exact a'⟩ hw fun S1 σ1 h1 E1 k1 => ?_
      exact sgs D0 S1 σ1 H o _ r c K Q E1 ⟨b, fun z => by cases V2 z with | cons a' b' => exact b'⟩ h1 fun S2 σ2 h2 E2 k2 => k S2 σ2 h2 E2 (k1.trans k2)
  · exact hw.elim
def wGT (n : Nat) (ws : WTgs) : WTg := fun d c S K => match d with
  | .tuple ds => ds.length = n ∧ ws ds (c ∨ flats ds = true) S K
  | _ => False
theorem sg_t {es : List Expr} {n kk : Nat} {L : List Nat} {ws : WTgs} (hc : X.calm = true) (h : SGs X es L ws)
    (hn : (assignEach es X.env).length = n := by rfl) (hst : (assignEach es X.env).findIdx? (·.1) = none := by rfl) : SG X (.Tuple es kk pos) L (wGT n ws) := by
  obtain ⟨g, pg, sg⟩ := h.ex
  refine ⟨_, pg_tup hc pg hn hst, ?_⟩
  intro D0 S σ H o v d c K Q E V hw k
  unfold wGT at hw
  split at hw
  · obtain ⟨a, vs, rfl, e, r, rc⟩ := V.titems E
    exact ⟨a, vs, rfl, SqT.at e, by rw [r.length]; exact hw.1, sg D0 S σ H o vs _ _ K Q E ⟨r, rc⟩ hw.2 k⟩
  · exact hw.elim
end
end Pu

namespace Pu
open PySem L2

/-! ### what is walked -/
/-- the walk J goes through the data ds; Z: what it stands on -/
structure Wk (J : It) (ds : List PyData) (c : Prop) (Z : (Addr → Bool) → Ow → Hp → Prop) : Prop where
  go : ∀ D0 o H i, Z D0 o H → i < ds.length → J.go i H
  stop : ∀ D0 o H, Z D0 o H → J.stop ds.length H
  yld : ∀ D0 S σ o H i x H' d, Z D0 o H → Env D0 S σ (co H) o → ds[i]? = some d → J.yld i H x H' → Le H H' ∧ Val D0 o H' x d c
  xe : ∀ D0 D0' o H H', Z D0 o H → Le (vt D0 o (co H)) (vt D0' o (co H')) → Le (vw D0 o (co H)) (vw D0' o (co H')) → Z D0' o H'
  fr : ∀ D0 o H o' H', c → Z D0 o H → Le (vw D0 o (co H)) (vw D0 o' (co H')) → Z D0 o' H'
def SndI (W : WM) (wi : TI) (w : WLs) : Prop := ∀ (D0 : Addr → Bool) (S : Slots) (σ : St) (H : Hp) (o : Ow) (A : List PyData → Prop → Slots → Prop) (B : EK) (R : It → Hp → Prop), Env D0 S σ (co H) o → w S A B →
  (∀ ds c S' J H' Z, A ds c S' → Env D0 S' σ (co H') o → XE o H H' → Wk J ds c Z → Z D0 o H' → R J H') → Xw W D0 σ o H B → wi σ H R
structure SI (X : Cx) (W : WM) (tg e : Expr) (w : WLs) : Prop where
  ex : ∃ wi, PI X tg e wi ∧ SndI W wi w

section
variable {X : Cx} {W : WM} {k : Nat} {pos : Pos}
def zL (a : Addr) (ds : List PyData) (c : Prop) : (Addr → Bool) → Ow → Hp → Prop := fun D0 o H => Rp (vt D0 o (co H)) (.ref a) (.list ds) ∧ (c → Rp (vw D0 o (co H)) (.ref a) (.list ds))
def zT (a : Addr) (ds : List PyData) (c : Prop) : (Addr → Bool) → Ow → Hp → Prop := fun D0 o H => Rp (vt D0 o (co H)) (.ref a) (.tuple ds) ∧ (c → Rp (vw D0 o (co H)) (.ref a) (.tuple ds))
theorem wk_list {K : PySem.W.Frag} {a : Addr} {ds : List PyData} {c : Prop} : Wk (Itl K a) ds c (zL a ds c) where
  go := fun D0 o H i z hi => by
    obtain ⟨b, vs, e, h, r⟩ := rp_lst z.1
    cases e
    have hi' : i < vs.length := by rw [r.length]; exact hi
    exact ⟨vs, vs[i], SqL.at (co_lst (vt_le _ _ h)), by rw [List.getElem?_eq_getElem hi']⟩
  stop := fun D0 o H z => by
    obtain ⟨b, vs, e, h, r⟩ := rp_lst z.1
    cases e
    exact ⟨vs, SqL.at (co_lst (vt_le _ _ h)), by rw [r.length]; exact Nat.le_refl _⟩
  yld := fun D0 S σ o H i x H' d z E hd y => by
    obtain ⟨rfl, y⟩ := y
    obtain ⟨b, vs, e, h, r⟩ := rp_lst z.1
    cases e
    have hx := y vs (SqL.at (co_lst (vt_le _ _ h)))
    obtain ⟨v, h1, h2⟩ := r.get hd
    rw [hx] at h1
    cases h1
    refine ⟨Le.refl _, h2, fun hc => ?_⟩
    obtain ⟨b', vs', e', h', r'⟩ := rp_lst (z.2 hc)
    cases e'
    have e2 := co_lst (vt_le _ _ h)
    have e3 := co_lst (vw_le _ _ h')
    rw [e2] at e3
    cases e3
    obtain ⟨v', h1', h2'⟩ := r'.get hd
    rw [hx] at h1'
    cases h1'
    exact h2'
  xe := fun D0 D0' o H H' z l1 l2 => ⟨z.1.mono l1, fun hc => (z.2 hc).mono l2⟩
  fr := fun D0 o H o' H' hc z l => ⟨((z.2 hc).mono l).mono vw_le_vt, fun _ => (z.2 hc).mono l⟩
theorem wk_tup {K : PySem.W.Frag} {a : Addr} {ds : List PyData} {c : Prop} : Wk (Itt K a) ds c (zT a ds c) where
  go := fun D0 o H i z hi => by
    obtain ⟨b, vs, e, h, r⟩ := rp_tup z.1
    cases e
    have hi' : i < vs.length := by rw [r.length]; exact hi
    exact ⟨vs, vs[i], SqT.at (co_tup (vt_le _ _ h)), by rw [List.getElem?_eq_getElem hi']⟩
  stop := fun D0 o H z => by
    obtain ⟨b, vs, e, h, r⟩ := rp_tup z.1
    cases e
    exact ⟨vs, SqT.at (co_tup (vt_le _ _ h)), by rw [r.length]; exact Nat.le_refl _⟩
  yld := fun D0 S σ o H i x H' d z E hd y => by
    obtain ⟨rfl, y⟩ := y
    obtain ⟨b, vs, e, h, r⟩ := rp_tup z.1
    cases e
    have hx := y vs (SqT.at (co_tup (vt_le _ _ h)))
    obtain ⟨v, h1, h2⟩ := r.get hd
    rw [hx] at h1
    cases h1
    refine ⟨Le.refl _, h2, fun hc => ?_⟩
    obtain ⟨b', vs', e', h', r'⟩ := rp_tup (z.2 hc)
    cases e'
    have e2 := co_tup (vt_le _ _ h)
    have e3 := co_tup (vw_le _ _ h')
    rw [e2] at e3
    cases e3
    obtain ⟨v', h1', h2'⟩ := r'.get hd
    rw [hx] at h1'
    cases h1'
    exact h2'
  xe := fun D0 D0' o H H' z l1 l2 => ⟨z.1.mono l1, fun hc => (z.2 hc).mono l2⟩
  fr := fun D0 o H o' H' hc z l => ⟨((z.2 hc).mono l).mono vw_le_vt, fun _ => (z.2 hc).mono l⟩
def rangeD (lo : Int) (n : Nat) : List PyData := (List.range n).map fun (i : Nat) => PyData.int (lo + (i : Int))
theorem rangeD_get {lo : Int} {n i : Nat} {d : PyData} (h : (rangeD lo n)[i]? = some d) : i < n ∧ d = .int (lo + (i : Int)) := by
  unfold rangeD at h
  rw [List.getElem?_map] at h
  by_cases hi : i < n
  · rw [List.getElem?_range hi] at h
    exact ⟨hi, (Option.some.inj h).symm⟩
  · rw [List.getElem?_eq_none (by rw [List.length_range]; omega)] at h
    cases h
theorem wk_range {lo : Int} {n : Nat} : Wk (Itr lo n) (rangeD lo n) True (fun _ _ _ => True) where
  go := fun D0 o H i _ hi => by
    have e : (rangeD lo n).length = n := by unfold rangeD; rw [List.length_map, List.length_range]
    show i < n
    omega
  stop := fun D0 o H _ => by
    have e : (rangeD lo n).length = n := by unfold rangeD; rw [List.length_map, List.length_range]
    show n ≤ (rangeD lo n).length
    omega
  yld := fun D0 S σ o H i x H' d _ E hd y => by
    obtain ⟨rfl, rfl⟩ := y
    obtain ⟨_, rfl⟩ := rangeD_get hd
    exact ⟨Le.refl _, Val.of (.int _)⟩
  xe := fun _ _ _ _ _ _ _ _ => trivial
  fr := fun _ _ _ _ _ _ _ _ => trivial
def wIL (wl : WEx) : WLs := fun S A B => wl S (fun d c S1 => match d with
  | .list ds => A ds c S1
  | _ => False) B
def wIT (wl : WEx) : WLs := fun S A B => wl S (fun d c S1 => match d with
  | .tuple ds => A ds (c ∨ flats ds = true) S1
  | _ => False) B
theorem si_l {tg e : Expr} {we : WEx} (he : SE X W e we) : SI X W tg e (wIL we) := by
  obtain ⟨te, pe, se⟩ := he.ex
  refine ⟨_, pi_list pe, ?_⟩
  intro D0 S σ H o A B R E hw k kx
  refine se D0 S σ H o _ B _ E hw (fun d c S1 v H1 h1 E1 x1 V1 => ?_) kx
  split at h1
  · obtain ⟨a, vs, rfl, e, r, _⟩ := V1.items E1
    exact ⟨a, rfl, ⟨vs, SqL.at e⟩, k _ c S1 _ H1 _ h1 E1 x1 wk_list ⟨V1.1, V1.2⟩⟩
  · exact h1.elim
theorem si_t {tg e : Expr} {we : WEx} (he : SE X W e we) : SI X W tg e (wIT we) := by
  obtain ⟨te, pe, se⟩ := he.ex
  refine ⟨_, pi_tup pe, ?_⟩
  intro D0 S σ H o A B R E hw k kx
  refine se D0 S σ H o _ B _ E hw (fun d c S1 v H1 h1 E1 x1 V1 => ?_) kx
  split at h1
  · have V2 := V1.flat E1
    obtain ⟨a, vs, rfl, e, r, _⟩ := V1.titems E1
    exact ⟨a, rfl, ⟨vs, SqT.at e⟩, k _ _ S1 _ H1 _ h1 E1 x1 wk_tup ⟨V2.1, fun z => V2.2 (z.elim .inl fun f => .inr (by rw [flat]; exact f))⟩⟩
  · exact h1.elim
def wR1 (wa : WLs) : WLs := fun S A B => wa S (fun ds _ S1 => match ds with
  | [.int n] => -(2 ^ 62) ≤ n ∧ n < 2 ^ 62 ∧ A (rangeD 0 n.toNat) True S1
  | _ => False) B
def wR2 (wa : WLs) : WLs := fun S A B => wa S (fun ds _ S1 => match ds with
  | [.int i, .int j] => (-(2 ^ 62) ≤ i ∧ i < 2 ^ 62 ∧ -(2 ^ 62) ≤ j ∧ j < 2 ^ 62) ∧ A (rangeD i (j - i).toNat) True S1
  | _ => False) B
theorem si_r1 {tg a : Expr} {p : Pos} {wa : WLs} (hm : X.mg "range" = none) (ha : SA X W [a] wa) (hg : Gl X "range" := by rfl) (hs : starEach [a] X.env = [(false, eval a X.env)] := by rfl) : SI X W tg (.Call (.Name "range" p) [a] [] pos) (wR1 wa) := by
  obtain ⟨ta, pa, sa⟩ := ha.ex
  refine ⟨_, pi_range1 hg hm pa hs, ?_⟩
  intro D0 S σ H o A B R E hw k kx
  refine sa D0 S σ H o _ B _ E hw (fun ds c S1 vs H1 hl h1 E1 x1 V1 => ?_) kx
  split at h1
  · obtain ⟨h2, h3, h4⟩ := h1
    obtain ⟨V1, _⟩ := V1
    cases V1 with
    | cons a b =>
      cases a
      cases b
      exact ⟨_, rfl, h2, h3, k _ _ S1 _ H1 _ h4 E1 x1 wk_range trivial⟩
  · exact h1.elim
theorem si_r2 {tg a b : Expr} {p : Pos} {wa : WLs} (hm : X.mg "range" = none) (ha : SA X W [a, b] wa) (hg : Gl X "range" := by rfl) (hs : starEach [a, b] X.env = [(false, eval a X.env), (false, eval b X.env)] := by rfl) (hs2 : starEach [b] X.env = [(false, eval b X.env)] := by rfl) : SI X W tg (.Call (.Name "range" p) [a, b] [] pos) (wR2 wa) := by
  obtain ⟨ta, pa, sa⟩ := ha.ex
  refine ⟨_, pi_range2 hg hm pa hs hs2, ?_⟩
  intro D0 S σ H o A B R E hw k kx
  refine sa D0 S σ H o _ B _ E hw (fun ds c S1 vs H1 hl h1 E1 x1 V1 => ?_) kx
  split at h1
  · obtain ⟨h2, h4⟩ := h1
    obtain ⟨V1, _⟩ := V1
    cases V1 with
    | cons a b =>
      cases a
      cases b with
      | cons a b =>
        cases a
        cases b
        exact ⟨_, _, rfl, h2, k _ _ S1 _ H1 _ h4 E1 x1 wk_range trivial⟩
  · exact h1.elim

/-! ### comprehensions -/
def wipeS (S : Slots) : List Nat → Slots
  | [] => S
  | v :: vs => (wipeS S vs).set v .un
def noX : EK := fun _ _ => False
def lcL (wg : WTg) (wt : WTx) (we : WEx) (c : Prop) (S : Slots) : List PyData → List PyData → Prop → (List PyData → Prop → Prop) → Prop
  | [], acc, ca, K => K acc ca
  | d :: r, acc, ca, K => wg d c S fun S1 => wt S1 (fun b S2 => S2 = S1 ∧ if b = true then we S1 (fun e ce S3 => S3 = S1 ∧ acc.length < sizeLine ∧ lcL wg wt we c S r (acc ++ [e]) (ca ∧ (ce ∨ flat e = true)) K) noX else lcL wg wt we c S r acc ca K) noX
def notRng : Option Slot → Bool
  | some (.rng _ _) => false
  | _ => true
def wLc (wi : WLs) (wg : WTg) (wt : WTx) (we : WEx) (vs : List Nat) : WLs := fun S A B => wi S (fun ds c S1 => (vs.all fun j => notRng S1[j]?) = true ∧ lcL wg wt we c (wipeS S1 vs) ds [] True fun acc ca => A acc ca S1) B
theorem wipe_get {σ : St} {j : Nat} : ∀ {vs : List Nat}, j ∉ vs → (wipe σ vs)[j]? = σ[j]?
  | [], _ => rfl
  | v :: vs, h => by
    unfold wipe
    rw [List.getElem?_set_ne (fun z => h (by rw [z]; exact List.mem_cons_self))]
    exact wipe_get fun z => h (List.mem_cons_of_mem _ z)
theorem wipeS_get {S : Slots} {j : Nat} : ∀ {vs : List Nat}, j ∉ vs → (wipeS S vs)[j]? = S[j]?
  | [], _ => rfl
  | v :: vs, h => by
    unfold wipeS
    rw [List.getElem?_set_ne (fun z => h (by rw [z]; exact List.mem_cons_self))]
    exact wipeS_get fun z => h (List.mem_cons_of_mem _ z)
theorem wipe_in {σ : St} {j : Nat} : ∀ {vs : List Nat}, j ∈ vs → (wipe σ vs)[j]? = if j < σ.length then some none else none
  | v :: vs, h => by
    unfold wipe
    rw [List.getElem?_set, wipe_length]
    by_cases e : v = j
    · subst e
      rw [if_pos rfl]
    · rw [if_neg e]
      exact wipe_in (by
        rcases List.mem_cons.mp h with z | z
        · exact absurd z.symm e
        · exact z)
theorem wipe_ext {σ σ' : St} {vs : List Nat} (hl : σ'.length = σ.length) (h : ∀ j, j ∉ vs → σ'[j]? = σ[j]?) : wipe σ' vs = wipe σ vs := by
  refine List.ext_getElem? fun j => ?_
  by_cases hj : j ∈ vs
  · rw [wipe_in hj, wipe_in hj, hl]
  · rw [wipe_get hj, wipe_get hj]
    exact h j hj
theorem Env.un {D0 : Addr → Bool} {S : Slots} {σ : St} {C : Hp} {o : Ow} (E : Env D0 S σ C o) (i : Nat) : Env D0 (S.set i .un) (σ.set i none) C o := by
  refine ⟨by rw [List.length_set, List.length_set]; exact E.len, E.live, E.dead, fun j s h => ?_⟩
  by_cases e : i = j
  · subst e
    have hi : i < S.length := by
      obtain ⟨h1, _⟩ := List.getElem?_eq_some_iff.mp h
      rw [List.length_set] at h1
      exact h1
    rw [List.getElem?_set_self hi] at h
    cases h
    trivial
  · rw [List.getElem?_set_ne e] at h ⊢
    exact E.sl j s h
theorem Env.wipe {D0 : Addr → Bool} {S : Slots} {σ : St} {C : Hp} {o : Ow} (E : Env D0 S σ C o) : ∀ vs : List Nat, Env D0 (wipeS S vs) (L2.wipe σ vs) C o
  | [] => E
  | v :: vs => (E.wipe vs).un v
/-- the frame as it stood ahead, its sources of draws as they stand now -/
theorem Env.back {D0 : Addr → Bool} {S S1 : Slots} {σ σ1 : St} {H H' : Hp} {o : Ow} (E : Env D0 S σ (co H) o) (E1 : Env D0 S1 σ1 (co H') o) (x : XE o H H') (hr : ∀ (j : Nat) (a c : Addr), S[j]? = some (Slot.rng a c) → S1[j]? = some (Slot.rng a c) ∧ σ1[j]? = σ[j]?) : Env D0 S σ (co H') o := by
  refine ⟨E.len, E1.live, E1.dead, fun i s e => ?_⟩
  have q := E.sl i s e
  have cx : ∀ a u, mutO (o a) = false → co H a = some u → co H' a = some u := fun a u hm h => by
    unfold co at h ⊢
    cases z : H a with
    | none => rw [z] at h; cases h
    | some y => rw [x a y hm z]; rw [z] at h; exact h
  cases s with
  | un => trivial
  | im d => obtain ⟨v, h1, h2⟩ := q; exact ⟨v, h1, h2.mono x.vw⟩
  | ol xs => obtain ⟨a, vs, h1, h2, h3, h4⟩ := q; exact ⟨a, vs, h1, h2, cx _ _ (by rw [h2]; rfl) h3, h4.mono x.vw⟩
  | od es =>
    obtain ⟨a, h1, h2, h3⟩ := q
    refine ⟨a, h1, h2, ?_⟩
    rcases h3 with ⟨kvs, h3, h4⟩ | ⟨kvs, h3, h4⟩
    · exact .inl ⟨kvs, cx _ _ (by rw [h2]; rfl) h3, h4.mono x.vw⟩
    · exact .inr ⟨kvs, cx _ _ (by rw [h2]; rfl) h3, h4.mono x.vw⟩
  | rng a c =>
    obtain ⟨h1, h2⟩ := hr i a c e
    have q1 := E1.sl i _ h1
    rw [h2] at q1
    exact q1
/-- the heap less one object -/
def rm (H : Hp) (D : Addr) : Hp := fun a => if a = D then none else H a
theorem rm_le {H : Hp} {D : Addr} : Le (rm H D) H := fun a u h => by
  unfold rm at h
  split at h
  · cases h
  · exact h
theorem rm_at {H : Hp} {D : Addr} : rm H D D = none := if_pos rfl
theorem rm_ne {H : Hp} {D a : Addr} (h : a ≠ D) : rm H D a = H a := if_neg h
theorem upd_rm {H : Hp} {D : Addr} {u : HO} (h : H D = some u) : upd (rm H D) D u = H := by
  funext a
  unfold upd rm
  by_cases e : a = D
  · rw [if_pos e, e, h]
  · rw [if_neg e, if_neg e]
/-- the object at D is hidden besides -/
def plus (D0 : Addr → Bool) (D : Addr) : Addr → Bool := fun a => D0 a || decide (a = D)
theorem plus_ne {D0 : Addr → Bool} {D a : Addr} (h : a ≠ D) : plus D0 D a = D0 a := by unfold plus; rw [decide_eq_false h, Bool.or_false]
theorem plus_at {D0 : Addr → Bool} {D : Addr} : plus D0 D D = true := by unfold plus; rw [decide_eq_true rfl, Bool.or_true]
theorem vt_plus {D0 : Addr → Bool} {o : Ow} {H : Hp} {D : Addr} : vt (plus D0 D) o (co H) = vt D0 o (co (rm H D)) := by
  funext a
  unfold vt
  by_cases e : a = D
  · subst e
    rw [plus_at, Bool.true_or, if_pos rfl]
    split
    · rfl
    · exact (co_none.mpr rm_at).symm
  · rw [plus_ne e]
    have : co (rm H D) a = co H a := by unfold co; rw [rm_ne e]
    rw [this]
theorem vw_plus {D0 : Addr → Bool} {o : Ow} {H : Hp} {D : Addr} : vw (plus D0 D) o (co H) = vw D0 o (co (rm H D)) := by
  funext a
  unfold vw
  by_cases e : a = D
  · subst e
    rw [plus_at, Bool.true_or, if_pos rfl]
    split
    · rfl
    · exact (co_none.mpr rm_at).symm
  · rw [plus_ne e]
    have : co (rm H D) a = co H a := by unfold co; rw [rm_ne e]
    rw [this]
theorem SlotOk.hide {D0 : Addr → Bool} {o : Ow} {H : Hp} {D : Addr} {i : Nat} {x : Option (Option V)} {s : Slot} (hD : o D = none) (h : SlotOk D0 (co (rm H D)) o i x s) : SlotOk (plus D0 D) (co H) o i x s := by
  have le : Le (co (rm H D)) (co H) := (rm_le (H := H) (D := D)).co
  cases s with
  | un => trivial
  | im d => obtain ⟨v, h1, h2⟩ := h; exact ⟨v, h1, by rw [vw_plus]; exact h2⟩
  | ol xs => obtain ⟨a, vs, h1, h2, h3, h4⟩ := h; exact ⟨a, vs, h1, h2, le _ _ h3, by rw [vw_plus]; exact h4⟩
  | od es =>
    obtain ⟨a, h1, h2, h3⟩ := h
    refine ⟨a, h1, h2, ?_⟩
    rw [vw_plus]
    rcases h3 with ⟨kvs, h3, h4⟩ | ⟨kvs, h3, h4⟩
    · exact .inl ⟨kvs, le _ _ h3, h4⟩
    · exact .inr ⟨kvs, le _ _ h3, h4⟩
  | rng a c => obtain ⟨st, ix, ns, h1, h2, h3, h4, h5, h6, h7⟩ := h; exact ⟨st, ix, ns, h1, h2, h3, h4, le _ _ h5, le _ _ h6, h7⟩
theorem SlotOk.show_ {D0 : Addr → Bool} {o : Ow} {H : Hp} {D : Addr} {i : Nat} {x : Option (Option V)} {s : Slot} (hD : o D = none) (h : SlotOk (plus D0 D) (co H) o i x s) : SlotOk D0 (co (rm H D)) o i x s := by
  have ne : ∀ {a : Addr} {p : Nat × Bool}, o a = some p → a ≠ D := fun {a p} e z => by rw [z, hD] at e; cases e
  have at_ : ∀ {a : Addr} {u : HO}, a ≠ D → co H a = some u → co (rm H D) a = some u := fun {a u} n e => by
    have : co (rm H D) a = co H a := by unfold co; rw [rm_ne n]
    rw [this]; exact e
  cases s with
  | un => trivial
  | im d => obtain ⟨v, h1, h2⟩ := h; exact ⟨v, h1, by rw [vw_plus] at h2; exact h2⟩
  | ol xs => obtain ⟨a, vs, h1, h2, h3, h4⟩ := h; exact ⟨a, vs, h1, h2, at_ (ne h2) h3, by rw [vw_plus] at h4; exact h4⟩
  | od es =>
    obtain ⟨a, h1, h2, h3⟩ := h
    refine ⟨a, h1, h2, ?_⟩
    rw [vw_plus] at h3
    rcases h3 with ⟨kvs, h3, h4⟩ | ⟨kvs, h3, h4⟩
    · exact .inl ⟨kvs, at_ (ne h2) h3, h4⟩
    · exact .inr ⟨kvs, at_ (ne h2) h3, h4⟩
  | rng a c => obtain ⟨st, ix, ns, h1, h2, h3, h4, h5, h6, h7⟩ := h; exact ⟨st, ix, ns, h1, h2, h3, h4, at_ (ne h2) h5, at_ (ne h3) h6, h7⟩
/-- D, an object of our own making, is hidden; is shown no more -/
theorem Env.hide {D0 : Addr → Bool} {S : Slots} {σ : St} {H : Hp} {o : Ow} {D : Addr} {u : HO} (E : Env D0 S σ (co (rm H D)) o) (h : H D = some u) (hu : isTup (core u) = false) : Env (plus D0 D) S σ (co H) o := by
  have hD := (E.new (p := D) rm_at)
  have le : Le (co (rm H D)) (co H) := (rm_le (H := H) (D := D)).co
  refine ⟨E.len, fun a p e => ?_, fun a e => ?_, fun i s e => (E.sl i s e).hide hD.2⟩
  · obtain ⟨h1, w', h2, h3⟩ := E.live a p e
    have ne : a ≠ D := fun z => by rw [z, hD.2] at e; cases e
    exact ⟨by rw [plus_ne ne]; exact h1, w', le _ _ h2, h3⟩
  · by_cases z : a = D
    · subst z
      exact ⟨_, co_of h, hu⟩
    · rw [plus_ne z] at e
      obtain ⟨w', h2, h3⟩ := E.dead a e
      exact ⟨w', le _ _ h2, h3⟩
theorem Env.show_ {D0 : Addr → Bool} {S : Slots} {σ : St} {H : Hp} {o : Ow} {D : Addr} (hD0 : D0 D = false) (hD : o D = none) (E : Env (plus D0 D) S σ (co H) o) : Env D0 S σ (co (rm H D)) o := by
  have at_ : ∀ {a : Addr} {u : HO}, a ≠ D → co H a = some u → co (rm H D) a = some u := fun {a u} n e => by
    have : co (rm H D) a = co H a := by unfold co; rw [rm_ne n]
    rw [this]; exact e
  refine ⟨E.len, fun a p e => ?_, fun a e => ?_, fun i s e => (E.sl i s e).show_ hD⟩
  · obtain ⟨h1, w', h2, h3⟩ := E.live a p e
    have ne : a ≠ D := fun z => by rw [z, hD] at e; cases e
    exact ⟨by rw [plus_ne ne] at h1; exact h1, w', at_ ne h2, h3⟩
  · have ne : a ≠ D := fun z => by rw [z, hD0] at e; cases e
    obtain ⟨w', h2, h3⟩ := E.dead a (by rw [plus_ne ne]; exact e)
    exact ⟨w', at_ ne h2, h3⟩
end
end Pu

namespace Pu
open PySem L2

/-! ### the weakest readings -/
def tW (W : WM) (w : WEx) : TE := fun σ H Q => ∃ (D0 : Addr → Bool) (S : Slots) (o : Ow) (A : PyData → Prop → Slots → Prop) (B : EK), Env D0 S σ (co H) o ∧ w S A B ∧
  (∀ d c S' v H', A d c S' → Env D0 S' σ (co H') o → XE o H H' → Val D0 o H' v d c → Q v H') ∧ Xw W D0 σ o H B
theorem tW_snd {W : WM} {w : WEx} : Snd W (tW W w) w := fun D0 S σ H o A B Q E hw k kx => ⟨D0, S, o, A, B, E, hw, k, kx⟩
theorem SE.pe {X : Cx} {W : WM} {e : Expr} {w : WEx} (h : SE X W e w) : PE X e (tW W w) := by
  obtain ⟨t, p, s⟩ := h.ex
  exact ⟨fun pins sh σ H Q I ⟨D0, S, o, A, B, E, hw, k, kx⟩ => p.run pins sh σ H Q I (s D0 S σ H o A B Q E hw k kx)⟩
def tTW (W : WM) (w : WTx) : TT := fun σ H Q => ∃ (D0 : Addr → Bool) (S : Slots) (o : Ow) (A : Bool → Slots → Prop) (B : EK), Env D0 S σ (co H) o ∧ w S A B ∧
  (∀ b S' H', A b S' → Env D0 S' σ (co H') o → XE o H H' → Q b H') ∧ Xw W D0 σ o H B
theorem tTW_snd {W : WM} {w : WTx} : SndT W (tTW W w) w := fun D0 S σ H o A B Q E hw k kx => ⟨D0, S, o, A, B, E, hw, k, kx⟩
theorem ST.pt {X : Cx} {W : WM} {e : Expr} {w : WTx} (h : ST X W e w) : PT X e (tTW W w) := by
  obtain ⟨t, p, s⟩ := h.ex
  exact ⟨fun pins sh σ H Q I ⟨D0, S, o, A, B, E, hw, k, kx⟩ => p.run pins sh σ H Q I (s D0 S σ H o A B Q E hw k kx)⟩
structure STs (X : Cx) (W : WM) (es : List Expr) (w : WTx) : Prop where
  ex : ∃ t, PTs X es t ∧ SndT W t w
theorem STs.pt {X : Cx} {W : WM} {es : List Expr} {w : WTx} (h : STs X W es w) : PTs X es (tTW W w) := by
  obtain ⟨t, p, s⟩ := h.ex
  exact ⟨fun pins sh σ H Q I ⟨D0, S, o, A, B, E, hw, k, kx⟩ => p.run pins sh σ H Q I (s D0 S σ H o A B Q E hw k kx)⟩
def wYes : WTx := fun S A _ => A true S
theorem sts_nil {X : Cx} {W : WM} : STs X W [] wYes := ⟨_, pts_nil, fun D0 S σ H o A B Q E hw k kx => k _ _ H hw E (XE.refl o H)⟩
theorem sts_one {X : Cx} {W : WM} {e : Expr} {w : WTx} (h : ST X W e w) : STs X W [e] w := by
  obtain ⟨t, p, s⟩ := h.ex
  exact ⟨_, pts_one p, s⟩
def gW (L : List Nat) (w : WTg) : TG := fun v σ H Q => ∃ (D0 : Addr → Bool) (S : Slots) (o : Ow) (d : PyData) (c : Prop) (K : Slots → Prop), Env D0 S σ (co H) o ∧ Val D0 o H v d c ∧ w d c S K ∧
  (∀ S' σ', K S' → Env D0 S' σ' (co H) o → Kept L S σ S' σ' → Q σ' H)
theorem gW_snd {L : List Nat} {w : WTg} : SndG L (gW L w) w := fun D0 S σ H o v d c K Q E V hw k => ⟨D0, S, o, d, c, K, E, V, hw, k⟩
theorem SG.pg {X : Cx} {tg : Expr} {L : List Nat} {w : WTg} (h : SG X tg L w) : PG X tg (gW L w) := by
  obtain ⟨t, p, s⟩ := h.ex
  exact ⟨fun pins sh σ H v u Q I r ⟨D0, S, o, d, c, K, E, V, hw, k⟩ => p.run pins sh σ H v u Q I r (s D0 S σ H o v d c K Q E V hw k)⟩

section
variable {X : Cx} {W : WM} {k : Nat} {pos : Pos}
abbrev WN (mg : Str → Option Value) : WM := ⟨mg, fun _ _ _ _ => False⟩
theorem Xw.no {mg : Str → Option Value} {D0 : Addr → Bool} {σ : St} {o : Ow} {H : Hp} : Xw (WN mg) D0 σ o H noX := fun _ _ _ _ _ h => h.elim
/-- within a comprehension's block nothing is raised -/
theorem At.blk (a : At X W k) (s : Shared) (H : Hp) (scope : Scope) (env : PySem.Env) (fp : List Addr) : At (X.blk s H scope env fp) (WN X.mg) k where
  room := a.room
  calm := a.calm
  tx := takes0
  mq := rfl
  nd := a.nd
  po := PassesOwn.never
theorem rm_upd {H : Hp} {D : Addr} {u : HO} : rm (upd H D u) D = rm H D := by
  funext a
  unfold rm upd
  by_cases e : a = D
  · rw [if_pos e, if_pos e]
  · rw [if_neg e, if_neg e, if_neg e]
theorem rm_none {H : Hp} {D : Addr} (h : H D = none) : rm H D = H := by
  funext a
  unfold rm
  by_cases e : a = D
  · rw [if_pos e, e, h]
  · rw [if_neg e]
theorem XE.rm {o : Ow} {H H' : Hp} {D : Addr} (h : XE o H H') : XE o (rm H D) (rm H' D) := fun a u m e => by
  unfold Pu.rm at e ⊢
  split at e
  · cases e
  · rename_i n
    rw [if_neg n]
    exact h a u m e
theorem snd_lc {mg : Str → Option Value} {twi : TI} {L vs : List Nat} {wi : WLs} {wg : WTg} {wt : WTx} {we : WEx} (swi : SndI W twi wi) (hL : ∀ j ∈ L, j ∈ vs) : SndO W (tLc twi (gW L wg) (tTW (WN mg) wt) (tW (WN mg) we) vs) (wLc wi wg wt we vs) := by
  intro D0 S σ H o A B Q E hw kk kx
  refine swi D0 S σ H o _ B _ E hw (fun ds c S1 J H1 Z h1 E1 x1 wk z1 => ?_) kx
  obtain ⟨hnr, h1⟩ := h1
  intro D hD
  have oD := (E1.new hD).2
  have dD := (E1.new hD).1
  have upW : ∀ {H' : Hp}, Z D0 o (rm H' D) → Z (plus D0 D) o H' := fun {H'} z => wk.xe _ _ _ _ _ z (by rw [vt_plus]; exact Le.refl _) (by rw [vw_plus]; exact Le.refl _)
  refine ⟨fun i m H' => m = ds.length - i ∧ i ≤ ds.length ∧ ∃ (acc : List PyData) (ca : Prop) (us : List V), H' D = some (.lst us) ∧ Vals' D0 o (rm H' D) us acc ca ∧ lcL wg wt we c (wipeS S1 vs) (ds.drop i) acc ca (fun acc ca => A acc ca S1) ∧ Env D0 S1 σ (co (rm H' D)) o ∧ XE o H1 (rm H' D) ∧ Z D0 o (rm H' D),
    ⟨ds.length, by simp, Nat.zero_le _, [], True, [], upd_same, ⟨.nil, fun _ => .nil⟩, h1, by rw [rm_upd, rm_none hD]; exact E1, by rw [rm_upd, rm_none hD]; exact XE.refl _ _, by rw [rm_upd, rm_none hD]; exact z1⟩, ?_⟩
  rintro i m H2 ⟨rfl, hi, acc, ca, us, eD, Vv, hl, E2, x2, z2⟩
  have hide2 : Env (plus D0 D) S1 σ (co H2) o := E2.hide eD rfl
  by_cases hlt : i < ds.length
  · right
    refine ⟨wk.go _ _ _ _ (upW z2) hlt, fun H' => i + 1 ≤ ds.length ∧ ∃ (acc : List PyData) (ca : Prop) (us : List V), H' D = some (.lst us) ∧ Vals' D0 o (rm H' D) us acc ca ∧ lcL wg wt we c (wipeS S1 vs) (ds.drop (i + 1)) acc ca (fun acc ca => A acc ca S1) ∧ Env D0 S1 σ (co (rm H' D)) o ∧ XE o H1 (rm H' D) ∧ Z D0 o (rm H' D),
      fun H' hN => ⟨ds.length - (i + 1), by omega, rfl, hN⟩, fun x H3 hy => ?_⟩
    have hd : ds[i]? = some ds[i] := List.getElem?_eq_getElem hlt
    obtain ⟨le3, Vx⟩ := wk.yld (plus D0 D) S1 σ o H2 i x H3 ds[i] (upW z2) hide2 hd hy
    have E3 : Env (plus D0 D) S1 σ (co H3) o := hide2.xe le3
    rw [List.drop_eq_getElem_cons hlt] at hl
    unfold lcL at hl
    refine gW_snd (plus D0 D) _ _ H3 o x ds[i] c _ _ (E3.wipe vs) Vx hl fun S4 σ4 h4 E4 k4 => ?_
    have outL : ∀ j, j ∉ vs → j ∉ L := fun j hj z => hj (hL j z)
    refine ⟨by
      have e : L2.wipe σ4 vs = L2.wipe (L2.wipe σ vs) vs := wipe_ext k4.ln fun j hj => k4.st j (outL j hj)
      rw [e]
      exact wipe_ext (wipe_length _ _) fun j hj => wipe_get hj, ?_⟩
    -- what is to hold behind a turn
    have fin : ∀ {S5 : Slots} {H5 : Hp}, Env (plus D0 D) S5 σ4 (co H5) o → S5 = S4 → XE o H3 H5 → H5 D = some (.lst us) ∧ XE o (rm H2 D) (rm H5 D) ∧ Env D0 S1 σ (co (rm H5 D)) o ∧ XE o H1 (rm H5 D) ∧ Z D0 o (rm H5 D) := by
      intro S5 H5 E5 e5 x5
      subst e5
      have x25 : XE o H2 H5 := (XE.of le3).trans x5
      have xr := x25.rm (D := D)
      refine ⟨x25 _ _ (by rw [oD]; rfl) eD, xr, Env.show_ dD oD (Env.back hide2 E5 x25 fun j a c hj => ?_), x2.trans xr, wk.xe _ _ _ _ _ z2 xr.vt xr.vw⟩
      have hj' : j ∉ vs := fun z => by
        have q := List.all_eq_true.mp hnr j z
        rw [hj] at q
        cases q
      exact ⟨(k4.sl j (outL j hj')).trans ((wipeS_get hj').trans hj), (k4.st j (outL j hj')).trans (wipe_get hj')⟩
    refine tTW_snd (plus D0 D) S4 σ4 H3 o _ noX _ E4 h4 (fun b S5 H5 h5 E5 x5 => ?_) Xw.no
    obtain ⟨e5, h5⟩ := h5
    cases b with
    | true =>
      rw [if_pos rfl] at h5 ⊢
      rw [← e5] at h5
      refine tW_snd (plus D0 D) S5 σ4 H5 o _ noX _ E5 h5 (fun d ce S6 v H6 h6 E6 x6 V6 => ?_) Xw.no
      obtain ⟨e6, hlen, h6⟩ := h6
      obtain ⟨f1, f2, f3, f4, f5⟩ := fin E6 (e6.trans e5) (x5.trans x6)
      have hle : us.length < sizeLine := by rw [Vv.1.length]; exact hlen
      refine ⟨us, f1, hle, hlt, acc ++ [d], _, us ++ [v], upd_same, ?_, h6, by rw [rm_upd]; exact f3, by rw [rm_upd]; exact f4, by rw [rm_upd]; exact f5⟩
      rw [rm_upd]
      have V6' := V6.flat E6
      refine ⟨(Vv.1.mono f2.vt).append (.cons ?_ .nil), fun hc => ((Vv.2 hc.1).mono f2.vw).append (.cons ?_ .nil)⟩
      · have q := V6'.1
        rw [vt_plus] at q
        exact q
      · have q := V6'.2 hc.2
        rw [vw_plus] at q
        exact q
    | false =>
      rw [if_neg Bool.false_ne_true] at h5 ⊢
      obtain ⟨f1, f2, f3, f4, f5⟩ := fin E5 e5 x5
      exact ⟨hlt, acc, ca, us, f1, ⟨Vv.1.mono f2.vt, fun hc => (Vv.2 hc).mono f2.vw⟩, h5, f3, f4, f5⟩
  · left
    have ei : i = ds.length := by omega
    subst ei
    rw [List.drop_length] at hl
    refine ⟨wk.stop _ _ _ (upW z2), ?_⟩
    have q := kk acc ca S1 us D (rm H2 D) hl E2 (x1.trans x2) rm_at Vv
    rw [upd_rm eD] at q
    exact q
theorem so_lc {elt tg iter : Expr} {ifs : List Expr} {scope : Scope} {own : List (Str × Nat)} {L : List Nat} {wi : WLs} {wg : WTg} {wt : WTx} {we : WEx} (a : At X W k) (hi : SI X W tg iter wi) (ok : blkC X.N X.env.scope scope own = true)
    (hg : ∀ (s : Shared) (H : Hp) (C : Addr) (cl : List (Str × Addr)) (fp : List Addr), SG (X.blk s H scope (compEnvC scope cl C X.env) fp) tg L wg)
    (ht : ∀ (s : Shared) (H : Hp) (C : Addr) (cl : List (Str × Addr)) (fp : List Addr), At (X.blk s H scope (compEnvC scope cl C X.env) fp) (WN X.mg) k → STs (X.blk s H scope (compEnvC scope cl C X.env) fp) (WN X.mg) ifs wt)
    (he : ∀ (s : Shared) (H : Hp) (C : Addr) (cl : List (Str × Addr)) (fp : List Addr), At (X.blk s H scope (compEnvC scope cl C X.env) fp) (WN X.mg) k → SE (X.blk s H scope (compEnvC scope cl C X.env) fp) (WN X.mg) elt we)
    (hL : ∀ j ∈ L, j ∈ own.map (·.2)) (hs : ∀ x, foldedSetIterable iter X.env x = pure x := by intro _; rfl) : SO X W (.ListComp elt [⟨tg, iter, ifs, 0⟩] scope pos) (wLc wi wg wt we (own.map (·.2))) := by
  obtain ⟨twi, pwi, swi⟩ := hi.ex
  refine ⟨_, pe_lc a.calm a.nd pwi (blkOk_by ok) (fun s H C cl fp => (hg s H C cl fp).pg) (fun s H C cl fp => (ht s H C cl fp (a.blk ..)).pt) (fun s H C cl fp => (he s H C cl fp (a.blk ..)).pe) hs, snd_lc swi hL⟩
end
end Pu

namespace Pu
open PySem L2

/-! ### statements -/
structure En where
  nx : Slots → Prop
  rt : PyData → Prop → Slots → Prop
  bk : Slots → Prop
  ct : Slots → Prop
  ex : EK
abbrev WS := Slots → En → Prop
structure Goes (W : WM) (D0 : Addr → Bool) (o : Ow) (H : Hp) (P : En) (D : Ends) : Prop where
  nx : ∀ S' σ' H' o', P.nx S' → Env D0 S' σ' (co H') o' → Fr o H o' H' → D.nx σ' H'
  bk : ∀ S' σ' H' o', P.bk S' → Env D0 S' σ' (co H') o' → Fr o H o' H' → D.bk σ' H'
  ct : ∀ S' σ' H' o', P.ct S' → Env D0 S' σ' (co H') o' → Fr o H o' H' → D.ct σ' H'
  rt : ∀ d c S' v σ' H' o', P.rt d c S' → Env D0 S' σ' (co H') o' → Fr o H o' H' → Val D0 o' H' v d c → D.rt v H'
  ex : ∀ x S' σ' cls dd H' o', P.ex x S' → Env D0 S' σ' (co H') o' → Fr o H o' H' → XOk W.mg H' x cls dd → W.w cls dd σ' H'
def SndS (W : WM) (t : TS) (w : WS) : Prop := ∀ (D0 : Addr → Bool) (S : Slots) (σ : St) (H : Hp) (o : Ow) (P : En) (D : Ends), Env D0 S σ (co H) o → w S P → Goes W D0 o H P D → t D σ H
structure SS (X : Cx) (W : WM) (st : Stmt) (w : WS) : Prop where
  ex : ∃ t, PS X st t ∧ SndS W t w
structure SSs (X : Cx) (W : WM) (st : List Stmt) (w : WS) : Prop where
  ex : ∃ t, PSs X st t ∧ SndS W t w
theorem Goes.on {W : WM} {D0 : Addr → Bool} {o o1 : Ow} {H H1 : Hp} {P : En} {D : Ends} (g : Goes W D0 o H P D) (f : Fr o H o1 H1) : Goes W D0 o1 H1 P D :=
  ⟨fun a b c d e E q => g.nx a b c d e E (f.trans q), fun a b c d e E q => g.bk a b c d e E (f.trans q), fun a b c d e E q => g.ct a b c d e E (f.trans q),
    fun a b c d e f' g' h E q => g.rt a b c d e f' g' h E (f.trans q), fun a b c d e f' g' h E q => g.ex a b c d e f' g' h E (f.trans q)⟩
theorem Goes.xw {W : WM} {D0 : Addr → Bool} {o : Ow} {H : Hp} {P : En} {D : Ends} (g : Goes W D0 o H P D) {σ : St} : Xw W D0 σ o H P.ex :=
  fun x S' cls dd H' h E q ok => g.ex x S' σ cls dd H' o h E q.fr ok
theorem Fr.vw {D0 : Addr → Bool} {o o' : Ow} {H H' : Hp} (f : Fr o H o' H') : Le (vw D0 o (co H)) (vw D0 o' (co H')) := fun a u e => by
  unfold Pu.vw at e ⊢
  split at e
  · cases e
  · rename_i hn
    have hd : D0 a = false := by
      cases q : D0 a with
      | false => rfl
      | true => exact absurd (by rw [q, Bool.true_or]) hn
    have ho : o a = none := by
      cases q : o a with
      | none => rfl
      | some p => exact absurd (by rw [q]; simp) hn
    unfold co at e ⊢
    cases q : H a with
    | none => rw [q] at e; cases e
    | some z =>
      obtain ⟨h1, h2⟩ := f a z ho q
      rw [hd, h2, if_neg (by simp), h1]
      rw [q] at e
      exact e

section
variable {X : Cx} {W : WM} {k : Nat} {pos : Pos}
def wSkip : WS := fun S P => P.nx S
def wSeq (w1 w2 : WS) : WS := fun S P => w1 S { P with nx := fun S1 => w2 S1 P }
theorem sss_nil : SSs X W [] wSkip := ⟨_, pss_nil, fun D0 S σ H o P D E hw g => g.nx S σ H o hw E (Fr.refl _ _)⟩
theorem sss_one {st : Stmt} {w : WS} (h : SS X W st w) : SSs X W [st] w := by
  obtain ⟨t, p, s⟩ := h.ex
  exact ⟨_, pss_one p, s⟩
theorem sss_cons {st : Stmt} {rest : List Stmt} {w1 w2 : WS} (h1 : SS X W st w1) (h2 : SSs X W rest w2) : SSs X W (st :: rest) (wSeq w1 w2) := by
  obtain ⟨t1, p1, s1⟩ := h1.ex
  obtain ⟨t2, p2, s2⟩ := h2.ex
  refine ⟨_, pss_cons p1 p2, ?_⟩
  intro D0 S σ H o P D E hw g
  refine s1 D0 S σ H o _ _ E hw ⟨fun S' σ' H' o' h E' f => ?_, g.bk, g.ct, g.rt, g.ex⟩
  exact s2 D0 S' σ' H' o' P D E' h (g.on f)
theorem ss_pass : SS X W (.Pass pos) wSkip := ⟨_, ps_pass, fun D0 S σ H o P D E hw g => g.nx S σ H o hw E (Fr.refl _ _)⟩

/-! names -/
def wSet (i : Nat) (we : WEx) : WS := fun S P => we S (fun d c S1 => (c ∨ flat d = true) ∧ P.nx (S1.set i (.im d))) P.ex
theorem ss_set (i : Nat) {x : Str} {e : Expr} {p : Pos} {we : WEx} (a : At X W k) (he : SE X W e we) (hi : X.N[i]? = some x := by rfl) (hx : Loc X.env.scope x := by first | exact Or.inl rfl | exact Or.inr rfl) (hs : swapsWith e (some (.Name x p)) pos.line X.env = pure false := by rfl) (hf : X.fn x = true ∨ X.env.scope.names.lookup x = some .local := by first | exact .inl rfl | exact .inr rfl) :
    SS X W (.Assign [.Name x p] e pos) (wSet i we) := by
  obtain ⟨te, pe, se⟩ := he.ex
  refine ⟨_, ps_set a.nd hi hx pe hs hf, ?_⟩
  intro D0 S σ H o P D E hw g
  refine se D0 S σ H o _ P.ex _ E hw (fun d c S1 v H1 h1 E1 x1 V1 => ?_) g.xw
  exact g.nx _ _ _ _ h1.2 (E1.put i ((V1.flat E1).2 h1.1)) x1.fr
/-- slot i is this frame's own list -/
def ow1 (o : Ow) (p : Addr) (i : Nat) : Ow := fun a => if a = p then some (i, false) else o a
theorem vw_ow {D0 : Addr → Bool} {o : Ow} {H : Hp} {p : Addr} {i : Nat} {u : HO} (h : H p = none) : vw D0 (ow1 o p i) (co (upd H p u)) = vw D0 o (co H) := by
  funext a
  unfold vw ow1
  by_cases e : a = p
  · subst e
    rw [if_pos rfl]
    show (if (D0 a || true) = true then none else _) = _
    rw [Bool.or_true, if_pos rfl]
    split
    · rfl
    · exact (co_none.mpr h).symm
  · rw [if_neg e, co_upd, upd_ne e]
theorem Env.own {D0 : Addr → Bool} {S : Slots} {σ : St} {H : Hp} {o : Ow} {p : Addr} {vs : List V} {ds : List PyData} (E : Env D0 S σ (co H) o) (i : Nat) (h : H p = none) (r : RpAll (vw D0 o (co H)) vs ds) :
    Env D0 (S.set i (.ol ds)) (σ.set i (some (.ref p))) (co (upd H p (.lst vs))) (ow1 o p i) := by
  have nw := E.new h
  have le : Le (co H) (co (upd H p (.lst vs))) := (Le.new h).co
  have oe : ∀ {a : Addr}, a ≠ p → ow1 o p i a = o a := fun {a} n => if_neg n
  have ne : ∀ {a : Addr} {q : Nat × Bool}, o a = some q → a ≠ p := fun {a q} e z => by rw [z, nw.2] at e; cases e
  refine ⟨by rw [List.length_set, List.length_set]; exact E.len, fun a q e => ?_, fun a e => ?_, fun j s e => ?_⟩
  · by_cases z : a = p
    · subst z
      exact ⟨nw.1, _, co_of upd_same, rfl⟩
    · rw [oe z] at e
      obtain ⟨h1, u, h2, h3⟩ := E.live a q e
      exact ⟨h1, u, le _ _ h2, h3⟩
  · obtain ⟨u, h2, h3⟩ := E.dead a e
    exact ⟨u, le _ _ h2, h3⟩
  · by_cases z : i = j
    · subst z
      have hi : i < S.length := by
        obtain ⟨h1, _⟩ := List.getElem?_eq_some_iff.mp e
        rw [List.length_set] at h1
        exact h1
      rw [List.getElem?_set_self hi] at e
      cases e
      exact ⟨p, vs, by rw [List.getElem?_set_self (by rw [E.len]; exact hi)], if_pos rfl, co_of upd_same, by rw [vw_ow h]; exact r⟩
    · rw [List.getElem?_set_ne z] at e ⊢
      have q := E.sl j s e
      cases s with
      | un => trivial
      | im d => obtain ⟨v, h1, h2⟩ := q; exact ⟨v, h1, by rw [vw_ow h]; exact h2⟩
      | ol xs => obtain ⟨a, ws, h1, h2, h3, h4⟩ := q; exact ⟨a, ws, h1, by rw [oe (ne h2)]; exact h2, le _ _ h3, by rw [vw_ow h]; exact h4⟩
      | od es =>
        obtain ⟨a, h1, h2, h3⟩ := q
        refine ⟨a, h1, by rw [oe (ne h2)]; exact h2, ?_⟩
        rw [vw_ow h]
        rcases h3 with ⟨kvs, h3, h4⟩ | ⟨kvs, h3, h4⟩
        · exact .inl ⟨kvs, le _ _ h3, h4⟩
        · exact .inr ⟨kvs, le _ _ h3, h4⟩
      | rng a c => obtain ⟨st, ix, ns, h1, h2, h3, h4, h5, h6, h7⟩ := q; exact ⟨st, ix, ns, h1, by rw [oe (ne h2)]; exact h2, by rw [oe (ne h3)]; exact h3, h4, le _ _ h5, le _ _ h6, h7⟩
theorem fr_own {D0 : Addr → Bool} {S : Slots} {σ : St} {H : Hp} {o : Ow} {p : Addr} {i : Nat} {u : HO} (h : H p = none) : Fr o H (ow1 o p i) (upd H p u) := fun a x n e => by
  have ne := ne_of_none e h
  exact ⟨by rw [upd_ne ne]; exact e, by show (if a = p then _ else _) = _; rw [if_neg ne]; exact n⟩
def wOwn (i : Nat) (wo : WLs) : WS := fun S P => wo S (fun ds c S1 => (c ∨ flats ds = true) ∧ P.nx (S1.set i (.ol ds))) P.ex
theorem Vals'.clean {D0 : Addr → Bool} {S : Slots} {σ : St} {H : Hp} {o : Ow} {vs : List V} {ds : List PyData} {c : Prop} (E : Env D0 S σ (co H) o) (h : Vals' D0 o H vs ds c) (hc : c ∨ flats ds = true) : RpAll (Pu.vw D0 o (co H)) vs ds :=
  hc.elim h.2 fun f => h.1.flat E.vtw f
theorem ss_own (i : Nat) {x : Str} {e : Expr} {p : Pos} {wo : WLs} (a : At X W k) (he : SO X W e wo) (hi : X.N[i]? = some x := by rfl) (hx : Loc X.env.scope x := by first | exact Or.inl rfl | exact Or.inr rfl) (hs : swapsWith e (some (.Name x p)) pos.line X.env = pure false := by rfl) (hf : X.fn x = true ∨ X.env.scope.names.lookup x = some .local := by first | exact .inl rfl | exact .inr rfl) :
    SS X W (.Assign [.Name x p] e pos) (wOwn i wo) := by
  obtain ⟨te, pe, se⟩ := he.ex
  refine ⟨_, ps_set a.nd hi hx pe hs hf, ?_⟩
  intro D0 S σ H o P D E hw g
  refine se D0 S σ H o _ P.ex _ E hw (fun ds c S1 vs q H1 h1 E1 x1 hq V1 => ?_) g.xw
  exact g.nx _ _ _ _ h1.2 (E1.own i hq (V1.clean E1 h1.1)) (x1.fr.trans (fr_own (D0 := D0) (S := S1) (σ := σ) hq))
/-- targets of any kind -/
def wAsg (we : WEx) (wg : WTg) : WS := fun S P => we S (fun d c S1 => wg d c S1 P.nx) P.ex
theorem ss_asg {tg e : Expr} {L : List Nat} {we : WEx} {wg : WTg} (he : SE X W e we) (hg : SG X tg L wg) (hs : swapsWithSole [tg] e pos.line X.env = pure false := by rfl) (hw : swappedStores [tg] e X.env = pure none := by rfl)
    (h1 : (assignEach [tg] X.env).map (·.2) = [assign tg X.env] := by rfl) : SS X W (.Assign [tg] e pos) (wAsg we wg) := by
  obtain ⟨te, pe, se⟩ := he.ex
  obtain ⟨gg, pg, sg⟩ := hg.ex
  refine ⟨_, ps_asg pe pg hs hw h1, ?_⟩
  intro D0 S σ H o P D E hw g
  refine se D0 S σ H o _ P.ex _ E hw (fun d c S1 v H1 h1 E1 x1 V1 => ?_) g.xw
  exact sg D0 S1 σ H1 o v d c _ _ E1 V1 h1 fun S2 σ2 h2 E2 _ => g.nx _ _ _ _ h2 E2 x1.fr
def wPar (i j : Nat) (wa : WLs) : WS := fun S P => wa S (fun ds c S1 => match ds with
  | [x, y] => (c ∨ flats [x, y] = true) ∧ P.nx ((S1.set i (.im x)).set j (.im y))
  | _ => False) P.ex
theorem ss_par (i j : Nat) {x y : Str} {e1 e2 : Expr} {px py pt : Pos} {kt k2 pt2} {wa : WLs} (a : At X W k) (ha : SA X W [e1, e2] wa) (hi : X.N[i]? = some x := by rfl) (hj : X.N[j]? = some y := by rfl) (hij : i ≠ j := by decide)
    (hx : X.env.scope.names.lookup x = some .local := by rfl) (hy : X.env.scope.names.lookup y = some .local := by rfl)
    (hw : swappedStores [.Tuple [.Name x px, .Name y py] kt pt] (.Tuple [e1, e2] k2 pt2) X.env = pure (some [x, y]) := by rfl)
    (hs : swapsWithSole [.Tuple [.Name x px, .Name y py] kt pt] (.Tuple [e1, e2] k2 pt2) pos.line X.env = pure false := by rfl) :
    SS X W (.Assign [.Tuple [.Name x px, .Name y py] kt pt] (.Tuple [e1, e2] k2 pt2) pos) (wPar i j wa) := by
  obtain ⟨ta, pa, sa⟩ := ha.ex
  refine ⟨_, ps_par a.calm a.nd hi hj hij hx hy pa hw hs, ?_⟩
  intro D0 S σ H o P D E hw g
  refine sa D0 S σ H o _ P.ex _ E hw (fun ds c S1 vs H1 hl h1 E1 x1 V1 => ?_) g.xw
  split at h1
  · have q := V1.clean E1 h1.1
    cases q with
    | cons r1 q =>
      cases q with
      | cons r2 q =>
        cases q
        exact ⟨_, _, rfl, g.nx _ _ _ _ h1.2 ((E1.put i r1).put j r2) x1.fr⟩
  · exact h1.elim
def wAug (i : Nat) (g : R2D) (we : WEx) : WS := fun S P => match S[i]? with
  | some (.im d) => we S (fun y cy S1 => g d True y cy fun z cz => (cz ∨ flat z = true) ∧ P.nx (S1.set i (.im z))) P.ex
  | _ => False
theorem ss_aug (i : Nat) {x : Str} {e : Expr} {p : Pos} {op : Operator} {g : R2D} {we : WEx} (a : At X W k) (ho : Op2 X (inplaceOp op) g) (he : SE X W e we) (hi : X.N[i]? = some x := by rfl) (hx : Loc X.env.scope x := by first | exact Or.inl rfl | exact Or.inr rfl) (hf : X.fn x = true ∨ X.env.scope.names.lookup x = some .local := by first | exact .inl rfl | exact .inr rfl) :
    SS X W (.AugAssign (.Name x p) op e pos) (wAug i g we) := by
  obtain ⟨te, pe, se⟩ := he.ex
  obtain ⟨r, hr, h⟩ := ho.ex
  refine ⟨_, ps_aug (ti := r) a.nd hi hx pe hr hf, ?_⟩
  intro D0 S σ H o P D E hw gg
  unfold wAug at hw
  split at hw
  · rename_i d hs
    obtain ⟨v, h1, h2⟩ := E.sl i _ hs
    refine ⟨v, h1, se D0 S σ H o _ P.ex _ E hw (fun y cy S1 u H1 h3 E1 x1 V1 => ?_) gg.xw⟩
    refine h D0 S1 σ o H1 v u d y True cy _ _ E1 ((Val.of h2).mono x1) V1 h3 fun z dz cz H' hz le V => ?_
    have E2 := E1.xe le
    exact gg.nx _ _ _ _ hz.2 (E2.put i ((V.flat E2).2 hz.1)) (x1.trans (XE.of le)).fr
  · exact hw.elim
def gIadd : R2D := gI (fun _ _ => True) fun i j => .int (i + j)
theorem o_iadd : Op2 X (inplaceOp .Add) gIadd := op2_I0 iop_add fun _ _ _ => .int _
theorem o_imul : Op2 X (inplaceOp .Mult) gMulS := op2_I iop_mul fun _ _ _ => .int _
theorem o_idiv : Op2 X (inplaceOp .FloorDiv) gDiv := op2_I iop_fdivW fun _ _ _ => .int _

/-! an expression alone; return; if -/
def wDrop (we : WEx) : WS := fun S P => we S (fun _ _ S1 => P.nx S1) P.ex
theorem ss_expr {e : Expr} {we : WEx} (he : SE X W e we) (hs : swapsWith e none pos.line X.env = pure false := by rfl) : SS X W (.Expr e pos) (wDrop we) := by
  obtain ⟨te, pe, se⟩ := he.ex
  refine ⟨_, ps_expr pe hs, ?_⟩
  intro D0 S σ H o P D E hw g
  exact se D0 S σ H o _ P.ex _ E hw (fun d c S1 v H1 h1 E1 x1 V1 => g.nx _ _ _ _ h1 E1 x1.fr) g.xw
def wRet (we : WEx) : WS := fun S P => we S P.rt P.ex
theorem ss_ret {e : Expr} {we : WEx} (he : SE X W e we) : SS X W (.Return (some e) pos) (wRet we) := by
  obtain ⟨te, pe, se⟩ := he.ex
  refine ⟨_, ps_ret pe, ?_⟩
  intro D0 S σ H o P D E hw g
  exact se D0 S σ H o _ P.ex _ E hw (fun d c S1 v H1 h1 E1 x1 V1 => g.rt _ _ _ _ _ _ _ h1 E1 x1.fr V1) g.xw
def wIfS (wt : WTx) (w1 w2 : WS) : WS := fun S P => wt S (fun b S1 => if b = true then w1 S1 P else w2 S1 P) P.ex
theorem ss_if {c : Expr} {a b : List Stmt} {wt : WTx} {w1 w2 : WS} (hc : ST X W c wt) (ha : SSs X W a w1) (hb : SSs X W b w2) : SS X W (.If c a b pos) (wIfS wt w1 w2) := by
  obtain ⟨tc, pc, sc⟩ := hc.ex
  obtain ⟨ta, pa, sa⟩ := ha.ex
  obtain ⟨tb, pb, sb⟩ := hb.ex
  refine ⟨_, ps_if pc pa pb, ?_⟩
  intro D0 S σ H o P D E hw g
  refine sc D0 S σ H o _ P.ex _ E hw (fun b S1 H1 h1 E1 x1 => ?_) g.xw
  cases b with
  | true => exact sa D0 S1 σ H1 o P D E1 h1 (g.on x1.fr)
  | false => exact sb D0 S1 σ H1 o P D E1 h1 (g.on x1.fr)

/-! loops -/
def forL (wg : WTg) (wb : WS) (c : Prop) (P : En) : List PyData → Slots → Prop
  | [], S => P.nx S
  | d :: r, S => wg d c S fun S1 => wb S1 { P with nx := forL wg wb c P r, ct := forL wg wb c P r, bk := P.nx }
def wFor (wi : WLs) (wg : WTg) (wb : WS) : WS := fun S P => wi S (fun ds c S1 => c ∧ forL wg wb c P ds S1) P.ex
theorem ss_for {tg iter : Expr} {body : List Stmt} {L : List Nat} {wi : WLs} {wg : WTg} {wb : WS} (a : At X W k) (hi : SI X W tg iter wi) (hg : SG X tg L wg) (hb : SSs X W body wb)
    (hs : ∀ x, foldedSetIterable iter X.env x = pure x := by intro _; rfl) : SS X W (.For tg iter body [] pos) (wFor wi wg wb) := by
  obtain ⟨twi, pwi, swi⟩ := hi.ex
  obtain ⟨gg, pg, sg⟩ := hg.ex
  obtain ⟨tb, pb, sb⟩ := hb.ex
  refine ⟨_, ps_for a.po a.calm pwi pg pb hs, ?_⟩
  intro D0 S σ H o P D E hw g
  refine swi D0 S σ H o _ P.ex _ E hw (fun ds c S1 J H1 Z h1 E1 x1 wk z1 => ?_) g.xw
  obtain ⟨hc, h1⟩ := h1
  refine ⟨fun i m σ' H' => m = ds.length - i ∧ i ≤ ds.length ∧ ∃ (S' : Slots) (o' : Ow), forL wg wb c P (ds.drop i) S' ∧ Env D0 S' σ' (co H') o' ∧ Fr o H1 o' H' ∧ Z D0 o' H', ⟨ds.length, by simp, Nat.zero_le _, S1, o, h1, E1, Fr.refl _ _, z1⟩, ?_⟩
  rintro i m σ2 H2 ⟨rfl, hi, S2, o2, h2, E2, f2, z2⟩
  by_cases hlt : i < ds.length
  · right
    refine ⟨wk.go _ _ _ _ z2 hlt, fun σ' H' => i + 1 ≤ ds.length ∧ ∃ (S' : Slots) (o' : Ow), forL wg wb c P (ds.drop (i + 1)) S' ∧ Env D0 S' σ' (co H') o' ∧ Fr o H1 o' H' ∧ Z D0 o' H', fun σ' H' hN => ⟨ds.length - (i + 1), by omega, rfl, hN⟩, fun x H3 hy => ?_⟩
    obtain ⟨le3, Vx⟩ := wk.yld D0 S2 σ2 o2 H2 i x H3 ds[i] z2 E2 (List.getElem?_eq_getElem hlt) hy
    rw [List.drop_eq_getElem_cons hlt] at h2
    unfold forL at h2
    refine sg D0 S2 σ2 H3 o2 x ds[i] c _ _ (E2.xe le3) Vx h2 fun S4 σ4 h4 E4 _ => ?_
    have f3 : Fr o H1 o2 H3 := f2.trans (XE.of le3).fr
    have z3 : Z D0 o2 H3 := wk.fr _ _ _ _ _ hc z2 (XE.of le3).vw
    have turn : ∀ S' σ' H' o', forL wg wb c P (ds.drop (i + 1)) S' → Env D0 S' σ' (co H') o' → Fr o2 H3 o' H' → i + 1 ≤ ds.length ∧ ∃ (S' : Slots) (o' : Ow), forL wg wb c P (ds.drop (i + 1)) S' ∧ Env D0 S' σ' (co H') o' ∧ Fr o H1 o' H' ∧ Z D0 o' H' :=
      fun S' σ' H' o' h E' f => ⟨hlt, S', o', h, E', f3.trans f, wk.fr _ _ _ _ _ hc z3 f.vw⟩
    exact sb D0 S4 σ4 H3 o2 _ _ E4 h4 ⟨turn, fun S' σ' H' o' h E' f => g.nx S' σ' H' o' h E' ((x1.fr.trans f3).trans f), turn,
      fun d c' S' v σ' H' o' h E' f V => g.rt d c' S' v σ' H' o' h E' ((x1.fr.trans f3).trans f) V, fun x' S' σ' cls dd H' o' h E' f ok => g.ex x' S' σ' cls dd H' o' h E' ((x1.fr.trans f3).trans f) ok⟩
  · left
    have ei : i = ds.length := by omega
    subst ei
    rw [List.drop_length] at h2
    exact ⟨wk.stop _ _ _ z2, g.nx _ _ _ _ h2 E2 (x1.fr.trans f2)⟩
def whL (wt : WTx) (wb : WS) (P : En) : Nat → Slots → Prop
  | 0, _ => False
  | n + 1, S => wt S (fun b S1 => if b = true then wb S1 { P with nx := whL wt wb P n, ct := whL wt wb P n, bk := P.nx } else P.nx S1) P.ex
def wWh (wt : WTx) (wb : WS) : WS := fun S P => ∃ n, whL wt wb P n S
theorem ss_while {c : Expr} {body : List Stmt} {wt : WTx} {wb : WS} (a : At X W k) (hc : ST X W c wt) (hb : SSs X W body wb) : SS X W (.While c body [] pos) (wWh wt wb) := by
  obtain ⟨tc, pc, sc⟩ := hc.ex
  obtain ⟨tb, pb, sb⟩ := hb.ex
  refine ⟨_, ps_while a.po pc pb, ?_⟩
  intro D0 S σ H o P D E hw g
  obtain ⟨n, hw⟩ := hw
  refine ⟨fun m σ' H' => ∃ (S' : Slots) (o' : Ow), whL wt wb P m S' ∧ Env D0 S' σ' (co H') o' ∧ Fr o H o' H', ⟨n, S, o, hw, E, Fr.refl _ _⟩, ?_⟩
  rintro m σ2 H2 ⟨S2, o2, h2, E2, f2⟩
  cases m with
  | zero => exact h2.elim
  | succ m =>
    refine sc D0 S2 σ2 H2 o2 _ P.ex _ E2 h2 (fun b S3 H3 h3 E3 x3 => ?_) (g.on f2).xw
    have f3 := f2.trans x3.fr
    cases b with
    | true =>
      rw [if_pos rfl] at h3 ⊢
      refine ⟨fun σ' H' => ∃ (S' : Slots) (o' : Ow), whL wt wb P m S' ∧ Env D0 S' σ' (co H') o' ∧ Fr o H o' H', fun σ' H' hN => ⟨m, Nat.lt_succ_self m, hN⟩, ?_⟩
      have turn : ∀ S' σ' H' o', whL wt wb P m S' → Env D0 S' σ' (co H') o' → Fr o2 H3 o' H' → ∃ (S' : Slots) (o' : Ow), whL wt wb P m S' ∧ Env D0 S' σ' (co H') o' ∧ Fr o H o' H' := fun S' σ' H' o' h E' f => ⟨S', o', h, E', f3.trans f⟩
      exact sb D0 S3 σ2 H3 o2 _ _ E3 h3 ⟨turn, fun S' σ' H' o' h E' f => g.nx S' σ' H' o' h E' (f3.trans f), turn,
        fun d c' S' v σ' H' o' h E' f V => g.rt d c' S' v σ' H' o' h E' (f3.trans f) V, fun x' S' σ' cls dd H' o' h E' f ok => g.ex x' S' σ' cls dd H' o' h E' (f3.trans f) ok⟩
    | false =>
      rw [if_neg Bool.false_ne_true] at h3 ⊢
      exact g.nx _ _ _ _ h3 E3 f3
end
end Pu

namespace Pu
open PySem L2
section
variable {X : Cx} {W : WM} {k : Nat} {pos : Pos}

/-! ### a list of one's own is changed -/
theorem ow_vw {D0 : Addr → Bool} {o : Ow} {H : Hp} {p : Addr} {q : Nat × Bool} {u : HO} (h : o p = some q) : vw D0 o (co (upd H p u)) = vw D0 o (co H) := by
  funext a
  unfold vw
  by_cases e : a = p
  · subst e
    rw [h]
    show (if (D0 a || true) = true then none else _) = (if (D0 a || true) = true then none else _)
    rw [Bool.or_true, if_pos rfl, if_pos rfl]
  · rw [co_upd, upd_ne e]
theorem Env.wr {D0 : Addr → Bool} {S : Slots} {σ : St} {H : Hp} {o : Ow} {p : Addr} {i : Nat} {vs : List V} {ds : List PyData} (E : Env D0 S σ (co H) o) (hs : i < S.length) (hσ : σ[i]? = some (some (.ref p))) (h : o p = some (i, false)) (r : RpAll (vw D0 o (co H)) vs ds) :
    Env D0 (S.set i (.ol ds)) σ (co (upd H p (.lst vs))) o := by
  have at_ : ∀ {a : Addr} {u : HO}, a ≠ p → co H a = some u → co (upd H p (.lst vs)) a = some u := fun {a u} n e => by rw [co_upd, upd_ne n]; exact e
  refine ⟨by rw [List.length_set]; exact E.len, fun a q e => ?_, fun a e => ?_, fun j s e => ?_⟩
  · by_cases z : a = p
    · subst z
      exact ⟨(E.live _ _ h).1, _, co_of upd_same, rfl⟩
    · obtain ⟨h1, u, h2, h3⟩ := E.live a q e
      exact ⟨h1, u, at_ z h2, h3⟩
  · have ne : a ≠ p := fun z => by rw [z, (E.live _ _ h).1] at e; cases e
    obtain ⟨u, h2, h3⟩ := E.dead a e
    exact ⟨u, at_ ne h2, h3⟩
  · by_cases z : i = j
    · subst z
      rw [List.getElem?_set_self hs] at e
      cases e
      exact ⟨p, vs, hσ, h, co_of upd_same, by rw [ow_vw h]; exact r⟩
    · rw [List.getElem?_set_ne z] at e
      have q := E.sl j s e
      have ne : ∀ {a : Addr} {b : Bool}, o a = some (j, b) → a ≠ p := fun {a b} e1 e2 => by rw [e2, h] at e1; cases e1; exact z rfl
      cases s with
      | un => trivial
      | im d => obtain ⟨v, h1, h2⟩ := q; exact ⟨v, h1, by rw [ow_vw h]; exact h2⟩
      | ol xs => obtain ⟨a, ws, h1, h2, h3, h4⟩ := q; exact ⟨a, ws, h1, h2, at_ (ne h2) h3, by rw [ow_vw h]; exact h4⟩
      | od es =>
        obtain ⟨a, h1, h2, h3⟩ := q
        refine ⟨a, h1, h2, ?_⟩
        rw [ow_vw h]
        rcases h3 with ⟨kvs, h3, h4⟩ | ⟨kvs, h3, h4⟩
        · exact .inl ⟨kvs, at_ (ne h2) h3, h4⟩
        · exact .inr ⟨kvs, at_ (ne h2) h3, h4⟩
      | rng a c => obtain ⟨st, ix, ns, h1, h2, h3, h4, h5, h6, h7⟩ := q; exact ⟨st, ix, ns, h1, h2, h3, h4, at_ (ne h2) h5, at_ (ne h3) h6, h7⟩
theorem fr_wr {H : Hp} {o : Ow} {p : Addr} {q : Nat × Bool} {u : HO} (h : o p = some q) : Fr o H o (upd H p u) := fun a x n e => by
  have ne : a ≠ p := fun z => by rw [z, h] at n; cases n
  exact ⟨by rw [upd_ne ne]; exact e, n⟩
theorem Env.lt {D0 : Addr → Bool} {S : Slots} {σ : St} {C : Hp} {o : Ow} (E : Env D0 S σ C o) {i : Nat} {s : Slot} (h : S[i]? = some s) : i < S.length := (List.getElem?_eq_some_iff.mp h).1
/-- x.append(e) -/
def wApp (i : Nat) (we : WEx) : WS := fun S P => (∃ xs, S[i]? = some (.ol xs)) ∧ we S (fun d c S1 => match S1[i]? with
  | some (.ol xs) => xs.length < sizeLine ∧ (c ∨ flat d = true) ∧ P.nx (S1.set i (.ol (xs ++ [d])))
  | _ => False) P.ex
theorem ss_app (i : Nat) {x : Str} {e : Expr} {p ap cp : Pos} {we : WEx} (he : SE X W e we) (hN : X.N[i]? = some x := by rfl) (hv : Vis X.env.scope x := by first | exact Or.inl rfl | exact Or.inr (Or.inl rfl) | exact Or.inr (Or.inr rfl))
    (hd : (x == ("__debug__" : Str)) = false := by decide) (hcd : (x == ("__classdict__" : Str)) = false := by decide)
    (hb : attributeBase (.Name x p) "append" X.env (eval (.Name x p) X.env) = eval (.Name x p) X.env := by rfl)
    (hfew : ((backTo cp (starEach [e] X.env)).all (fun x => !x.1) && (backToKw cp (keywordEach [] X.env)).all (fun x => x.1.isSome) && decide ([e].length + ([] : List Keyword).length + (if ([] : List Keyword).isEmpty then 0 else 1) < 30)) = true := by rfl)
    (hl : (ap.endLine == cp.line) = true := by rfl) (hst : starEach [e] X.env = (false, eval e X.env) :: starEach [] X.env := by rfl) (hpl : (backTo cp (starEach [] X.env)).any (·.1) = false := by rfl)
    (hsw : swapsWith (.Call (.Attribute (.Name x p) "append" ap) [e] [] cp) none pos.line X.env = pure false := by rfl) :
    SS X W (.Expr (.Call (.Attribute (.Name x p) "append" ap) [e] [] cp) pos) (wApp i we) := by
  obtain ⟨te, pe, se⟩ := he.ex
  refine ⟨_, ps_expr (pe_bm PySem.F.plainAttrs_list PySem.F.slot_list_append PySem.F.type_list_append mt_append (pe_var hN hv hd hcd) (pa_cons pe pa_nil hst) hb hfew hl hst hpl) hsw, ?_⟩
  intro D0 S σ H o P D E hw g
  obtain ⟨⟨xs0, hs0⟩, hw⟩ := hw
  obtain ⟨a, vs0, h1, h2, h3, h4⟩ := E.sl i _ hs0
  refine ⟨.ref a, h1, .inl ⟨rfl, vs0, SqL.at (co_lst h3)⟩, se D0 S σ H o _ P.ex _ E hw (fun d c S1 v H1 h5 E1 x1 V1 => ?_) g.xw⟩
  split at h5
  · rename_i xs hs1
    obtain ⟨a', vs, k1, k2, k3, k4⟩ := E1.sl i _ hs1
    rw [h1] at k1
    cases k1
    refine ⟨a, vs, v, rfl, rfl, co_lst k3, by rw [k4.length]; exact h5.1, ?_⟩
    exact g.nx _ _ _ _ h5.2.2 (E1.wr (E1.lt hs1) h1 k2 (k4.append (.cons ((V1.flat E1).2 h5.2.1) .nil))) (x1.fr.trans (fr_wr k2))
  · exact h5.elim
/-- x.extend(e), e a list -/
def wExt (i : Nat) (we : WEx) : WS := fun S P => (∃ xs, S[i]? = some (.ol xs)) ∧ we S (fun d c S1 => match d, S1[i]? with
  | .list ys, some (.ol xs) => xs.length + ys.length ≤ sizeLine ∧ (c ∨ flats ys = true) ∧ P.nx (S1.set i (.ol (xs ++ ys)))
  | _, _ => False) P.ex
theorem ss_ext (i : Nat) {x : Str} {e : Expr} {p ap cp : Pos} {we : WEx} (he : SE X W e we) (hN : X.N[i]? = some x := by rfl) (hv : Vis X.env.scope x := by first | exact Or.inl rfl | exact Or.inr (Or.inl rfl) | exact Or.inr (Or.inr rfl))
    (hd : (x == ("__debug__" : Str)) = false := by decide) (hcd : (x == ("__classdict__" : Str)) = false := by decide)
    (hb : attributeBase (.Name x p) "extend" X.env (eval (.Name x p) X.env) = eval (.Name x p) X.env := by rfl)
    (hfew : ((backTo cp (starEach [e] X.env)).all (fun x => !x.1) && (backToKw cp (keywordEach [] X.env)).all (fun x => x.1.isSome) && decide ([e].length + ([] : List Keyword).length + (if ([] : List Keyword).isEmpty then 0 else 1) < 30)) = true := by rfl)
    (hl : (ap.endLine == cp.line) = true := by rfl) (hst : starEach [e] X.env = (false, eval e X.env) :: starEach [] X.env := by rfl) (hpl : (backTo cp (starEach [] X.env)).any (·.1) = false := by rfl)
    (hsw : swapsWith (.Call (.Attribute (.Name x p) "extend" ap) [e] [] cp) none pos.line X.env = pure false := by rfl) :
    SS X W (.Expr (.Call (.Attribute (.Name x p) "extend" ap) [e] [] cp) pos) (wExt i we) := by
  obtain ⟨te, pe, se⟩ := he.ex
  refine ⟨_, ps_expr (pe_bm PySem.F.plainAttrs_list PySem.F.slot_list_extend PySem.F.type_list_extend mt_extend (pe_var hN hv hd hcd) (pa_cons pe pa_nil hst) hb hfew hl hst hpl) hsw, ?_⟩
  intro D0 S σ H o P D E hw g
  obtain ⟨⟨xs0, hs0⟩, hw⟩ := hw
  obtain ⟨a, vs0, h1, h2, h3, h4⟩ := E.sl i _ hs0
  refine ⟨.ref a, h1, .inl ⟨rfl, vs0, SqL.at (co_lst h3)⟩, se D0 S σ H o _ P.ex _ E hw (fun d c S1 v H1 h5 E1 x1 V1 => ?_) g.xw⟩
  split at h5
  · rename_i ys xs hs1
    obtain ⟨a', vs, k1, k2, k3, k4⟩ := E1.sl i _ hs1
    rw [h1] at k1
    cases k1
    obtain ⟨b, ws, rfl, eb, rb, cb⟩ := V1.items E1
    refine ⟨a, b, vs, ws, rfl, rfl, co_lst k3, eb, by rw [k4.length, rb.length]; exact h5.1, ?_⟩
    exact g.nx _ _ _ _ h5.2.2 (E1.wr (E1.lt hs1) h1 k2 (k4.append (cb h5.2.1))) (x1.fr.trans (fr_wr k2))
  · exact h5.elim
/-- x[j] = e -/
def wSetI (i : Nat) (we wj : WEx) : WS := fun S P => we S (fun d c S1 => (∃ xs, S1[i]? = some (.ol xs)) ∧ wj S1 (fun jd _ S2 => match jd, S2[i]? with
  | .int j, some (.ol xs) => ∃ n, ixN xs.length j = some n ∧ (c ∨ flat d = true) ∧ P.nx (S2.set i (.ol (xs.set n d)))
  | _, _ => False) P.ex) P.ex
theorem ss_setI (i : Nat) {x : Str} {e j : Expr} {p ap : Pos} {we wj : WEx} (he : SE X W e we) (hj : SE X W j wj) (hN : X.N[i]? = some x := by rfl) (hv : Vis X.env.scope x := by first | exact Or.inl rfl | exact Or.inr (Or.inl rfl) | exact Or.inr (Or.inr rfl))
    (hd : (x == ("__debug__" : Str)) = false := by decide) (hcd : (x == ("__classdict__" : Str)) = false := by decide)
    (ha : ∀ v, assign (.Subscript (.Name x p) j ap) X.env v = (do
      let ov ← holding [v] (eval (.Name x p) X.env)
      let iv ← holding [v, ov] (eval j X.env)
      standAt ap
      holding [v, ov, iv] (setItem ov iv v)
      release [v, ov, iv] []) := by intro _; rfl)
    (hs : swapsWithSole [.Subscript (.Name x p) j ap] e pos.line X.env = pure false := by rfl) (hw : swappedStores [.Subscript (.Name x p) j ap] e X.env = pure none := by rfl)
    (h1 : (assignEach [.Subscript (.Name x p) j ap] X.env).map (·.2) = [assign (.Subscript (.Name x p) j ap) X.env] := by rfl) : SS X W (.Assign [.Subscript (.Name x p) j ap] e pos) (wSetI i we wj) := by
  obtain ⟨te, pe, se⟩ := he.ex
  obtain ⟨tj, pj, sj⟩ := hj.ex
  refine ⟨_, ps_asg pe (pg_sub (pe_var hN hv hd hcd) pj set_list ha) hs hw h1, ?_⟩
  intro D0 S σ H o P D E hw g
  refine se D0 S σ H o _ P.ex _ E hw (fun d c S1 v H1 h1 E1 x1 V1 => ?_) g.xw
  obtain ⟨⟨xs0, hs0⟩, h1⟩ := h1
  obtain ⟨a, vs0, k1, k2, k3, k4⟩ := E1.sl i _ hs0
  refine ⟨.ref a, k1, sj D0 S1 σ H1 o _ P.ex _ E1 h1 (fun jd cj S2 jv H2 h2 E2 x2 V2 => ?_) (g.on x1.fr).xw⟩
  split at h2
  · rename_i j' xs hs1
    obtain ⟨n, hn, hc, h2⟩ := h2
    obtain ⟨a', vs, m1, m2, m3, m4⟩ := E2.sl i _ hs1
    rw [k1] at m1
    cases m1
    cases V2.1
    refine ⟨a, vs, j', n, rfl, rfl, co_lst m3, by rw [m4.length]; exact hn, ?_⟩
    have V1' := (V1.mono x2).flat E2
    exact g.nx _ _ _ _ h2 (E2.wr (E2.lt hs1) k1 m2 (RpAll.set (V1'.2 hc) n m4)) ((x1.fr.trans x2.fr).trans (fr_wr m2))
  · exact h2.elim
/-- x[j] op= e -/
def rGetL : V → V → Hp → VK → Prop := fun x y H Q => ∃ p xs i v, x = .ref p ∧ y = .int i ∧ H p = some (.lst xs) ∧ 0 ≤ i ∧ atI xs i = some v ∧ Q v H
theorem get_list : PGet X rGetL := by
  intro pins s σ H x y v u Q I rx ry h
  obtain ⟨p, xs, i, z, rfl, rfl, hp, h0, he, q⟩ := h
  cases rx
  obtain ⟨t, rfl⟩ := ry
  obtain ⟨its, n, r, ho, hz⟩ := I.lst hp
  obtain ⟨j, h1, h2, h3, h4, h5⟩ := atI_get he
  obtain ⟨w, ew, rw'⟩ := r.get h2
  have hl := r.length
  have hn := line63
  have hj : i.toNat = j := by
    rw [seqIndex_of h0 h5] at h1
    exact Option.some.inj h1
  have pl : s.heap.IsList p its.toArray := ⟨_, ho, rfl, n, rfl⟩
  exact wpAny_getItem_list pl h0 (by omega) (by rw [hj]; simpa using ew) ⟨z, H, I, rw', q⟩
def wAugI (i : Nat) (g : R2D) (wj we : WEx) : WS := fun S P => (∃ xs, S[i]? = some (.ol xs)) ∧ wj S (fun jd _ S1 => match jd, S1[i]? with
  | .int j, some (.ol xs) => 0 ≤ j ∧ ∃ d, atD xs j = some d ∧ we S1 (fun y cy S2 => g d True y cy fun z cz => match S2[i]? with
    | some (.ol ys) => ∃ n, ixN ys.length j = some n ∧ (cz ∨ flat z = true) ∧ P.nx (S2.set i (.ol (ys.set n z)))
    | _ => False) P.ex
  | _, _ => False) P.ex
theorem ss_augI (i : Nat) {x : Str} {e j : Expr} {op : Operator} {p ap : Pos} {g : R2D} {we wj : WEx} (ho : Op2 X (inplaceOp op) g) (hj : SE X W j wj) (he : SE X W e we) (hN : X.N[i]? = some x := by rfl) (hv : Vis X.env.scope x := by first | exact Or.inl rfl | exact Or.inr (Or.inl rfl) | exact Or.inr (Or.inr rfl))
    (hd : (x == ("__debug__" : Str)) = false := by decide) (hcd : (x == ("__classdict__" : Str)) = false := by decide)
    (ha : ∀ ov iv new, augStore j ov iv new = (do holding [new, ov, iv] (setItem ov iv new); release [new, ov, iv] []; pure .next) := by intros; rfl) :
    SS X W (.AugAssign (.Subscript (.Name x p) j ap) op e pos) (wAugI i g wj we) := by
  obtain ⟨te, pe, se⟩ := he.ex
  obtain ⟨tj, pj, sj⟩ := hj.ex
  obtain ⟨r, hr, h⟩ := ho.ex
  refine ⟨_, ps_augS (tip := r) (pe_var hN hv hd hcd) pj get_list pe hr set_list ha, ?_⟩
  intro D0 S σ H o P D E hw gg
  obtain ⟨⟨xs0, hs0⟩, hw⟩ := hw
  obtain ⟨a, vs0, k1, k2, k3, k4⟩ := E.sl i _ hs0
  refine ⟨.ref a, k1, sj D0 S σ H o _ P.ex _ E hw (fun jd cj S1 jv H1 h1 E1 x1 V1 => ?_) gg.xw⟩
  split at h1
  · rename_i j' xs hs1
    obtain ⟨h0, d, hd, h1⟩ := h1
    obtain ⟨a', vs, m1, m2, m3, m4⟩ := E1.sl i _ hs1
    rw [k1] at m1
    cases m1
    cases V1.1
    obtain ⟨v, hv, rv⟩ := rp_at m4 hd
    refine ⟨a, vs, j', v, rfl, rfl, co_lst m3, h0, hv, se D0 S1 σ H1 o _ P.ex _ E1 h1 (fun y cy S2 u H2 h2 E2 x2 V2 => ?_) (gg.on x1.fr).xw⟩
    refine h D0 S2 σ o H2 v u d y True cy _ _ E2 ((Val.of rv).mono x2) V2 h2 fun z dz cz H3 hz le V => ?_
    have E3 := E2.xe le
    split at hz
    · rename_i ys hs2
      obtain ⟨n, hn, hc, hz⟩ := hz
      obtain ⟨a', vs', q1, q2, q3, q4⟩ := E3.sl i _ hs2
      rw [k1] at q1
      cases q1
      refine ⟨a, vs', j', n, rfl, rfl, co_lst q3, by rw [q4.length]; exact hn, ?_⟩
      exact gg.nx _ _ _ _ hz (E3.wr (E3.lt hs2) k1 q2 (RpAll.set ((V.flat E3).2 hc) n q4)) ((((x1.trans x2).trans (XE.of le)).fr).trans (fr_wr q2))
    · exact hz.elim
  · exact h1.elim
theorem o_isub : Op2 X (inplaceOp .Sub) (gI (fun _ _ => True) fun i j => .int (i - j)) := op2_I0 iop_sub fun _ _ _ => .int _

/-! ### a def of the text keeps its promise -/
/-- the frame at a def's start -/
def startS (n : Nat) (ds : List PyData) : Slots := ds.map .im ++ List.replicate (n - ds.length) .un
theorem env_start {D0 : Addr → Bool} {N : List Str} {vs : List V} {ds : List PyData} {H : Hp} (hd : ∀ a, D0 a = true → ∃ u, co H a = some u ∧ isTup u = false) (r : RpAll (hid D0 (co H)) vs ds) : Env D0 (startS N.length ds) (L2.start N vs) (co H) (fun _ => none) := by
  have ev : vw D0 (fun _ => none) (co H) = hid D0 (co H) := by
    funext a
    unfold vw hid
    simp
  refine ⟨?_, fun a p e => (by cases e), hd, fun i s e => ?_⟩
  · unfold startS L2.start
    simp [r.length]
  · unfold startS at e
    by_cases hi : i < ds.length
    · rw [List.getElem?_append_left (by simpa using hi), List.getElem?_map, List.getElem?_eq_getElem hi] at e
      cases e
      obtain ⟨v, h1, h2⟩ := r.get (List.getElem?_eq_getElem hi)
      refine ⟨v, ?_, by rw [ev]; exact h2⟩
      unfold L2.start
      rw [List.getElem?_append_left (by simpa [r.length] using hi), List.getElem?_map, h1]
      rfl
    · rw [List.getElem?_append_right (by simpa using hi), List.getElem?_replicate] at e
      split at e
      · cases e
        trivial
      · cases e
section
variable {P : Program} {w : World} {K : PySem.W.Frag} {mg : Str → Option Value} {base : Heap}
/-- THE RULE for a def that changes nothing -/
theorem def_ok {x : Str} {st : Stmt} {f : Addr} {fd : FuncData} {N ps : List Str} {k : Nat} {sp : Spc} (F : Fun K x x st f fd) (S : FnScope N ps (defScope st))
    (hb : ∀ (cdv : Value) (A : Around) (outer : List PySem.Env) (s : Shared) (H : Hp) (E : XK), At (cxOf (L2.CX P w) P w K mg base N x (defScope st) f cdv A outer s H E) ⟨mg, fun cls d _ H' => E cls d H'⟩ k →
      ∃ wb, SSs (cxOf (L2.CX P w) P w K mg base N x (defScope st) f cdv A outer s H E) ⟨mg, fun cls d _ H' => E cls d H'⟩ (defBody st) wb ∧
        ∀ ds A B, ds.length = ps.length → sp ds A B → wb (startS N.length ds) ⟨fun _ => A .none, fun d _ _ => A d, fun _ => False, fun _ => False, fun x _ => B x⟩) :
    FnOk P w K mg base (L2.CX P w) (k + 1) f fd ps (spOf mg ps.length sp) := by
  refine F.okX S (fun vs H Q E h => spOf_len h) (fun cdv A outer s H vs Q E hr h => ?_)
  obtain ⟨ds, D0, A', B', hl, hd, r, hsp, hA, hB⟩ := h
  have at_ : At (cxOf (L2.CX P w) P w K mg base N x (defScope st) f cdv A outer s H E) ⟨mg, fun cls d _ H' => E cls d H'⟩ k := by
    refine ⟨hr, rfl, takes_of rfl rfl rfl rfl, rfl, S.nd, passes_of rfl⟩
  obtain ⟨wb, hp, hw⟩ := hb cdv A outer s H E at_
  obtain ⟨t, pt, st'⟩ := hp.ex
  refine ⟨t, pt, ?_⟩
  have ev : ∀ {H' : Hp} {o' : Ow} {v : V} {d : PyData}, Rp (vt D0 o' (co H')) v d → Rp (hid D0 (co H')) v d := fun {H' o' v d} q => q.mono fun a u e => by
    unfold vt at e
    unfold hid
    split at e
    · cases e
    · rename_i hn
      rw [if_neg (fun z => hn (by rw [z, Bool.true_or]))]
      exact e
  have le : ∀ {H' : Hp} {o' : Ow}, Fr (fun _ => none) H o' H' → Le H H' := fun {H' o'} f a u e => (f a u rfl e).1
  exact st' D0 _ _ H _ _ _ (env_start hd r) (hw ds A' B' hl hsp)
    ⟨fun S' σ' H' o' h E' f => hA _ _ _ h (le f) .non, fun _ _ _ _ h => h.elim, fun _ _ _ _ h => h.elim,
      fun d c S' v σ' H' o' h E' f V => hA _ _ _ h (le f) (ev V.1), fun x S' σ' cls dd H' o' h E' f ok => hB x cls dd H' h (le f) ok⟩
end
end
end Pu

namespace Pu
open PySem L2
section
variable {X : Cx} {W : WM} {k : Nat} {pos : Pos}
theorem vals1 {D0 : Addr → Bool} {o : Ow} {H : Hp} {vs : List V} {d : PyData} {c : Prop} (h : Vals' D0 o H vs [d] c) : ∃ v, vs = [v] ∧ Val D0 o H v d c := by
  obtain ⟨h1, h2⟩ := h
  cases h1 with
  | cons a b =>
    cases b
    exact ⟨_, rfl, a, fun hc => by cases h2 hc with | cons a' _ => exact a'⟩
theorem CallR.or {f : Value} {r1 r2 : List V → Hp → VK → Prop} (h1 : CallR X f r1) (h2 : CallR X f r2) : CallR X f (fun xs H Q => r1 xs H Q ∨ r2 xs H Q) := by
  intro pins s σ H xs us Q I rx h
  rcases h with h | h
  · exact h1 pins s σ H xs us Q I rx h
  · exact h2 pins s σ H xs us Q I rx h
def gLen : RD := fun ds _ K => match ds with
  | [.list xs] => K (.int xs.length) True
  | [.tuple xs] => K (.int xs.length) True
  | [.str z] => z.length ≤ sizeLine ∧ K (.int z.length) True
  | _ => False
theorem f_len : Fn X (.builtin "len") gLen := by
  refine ⟨_, call_len, ?_⟩
  intro D0 S σ o H vs ds c K Q E V hg k
  unfold gLen at hg
  split at hg
  · obtain ⟨v, rfl, U⟩ := vals1 V
    obtain ⟨a, ws, rfl, e, r, _⟩ := U.items E
    refine ⟨_, ws.length, rfl, .inl ⟨ws, SqL.at e, rfl⟩, ?_⟩
    rw [r.length]
    exact k _ _ _ H hg (Le.refl H) (Val.of (.int _))
  · obtain ⟨v, rfl, U⟩ := vals1 V
    obtain ⟨a, ws, rfl, e, r, _⟩ := U.titems E
    refine ⟨_, ws.length, rfl, .inr ⟨ws, SqT.at e, rfl⟩, ?_⟩
    rw [r.length]
    exact k _ _ _ H hg (Le.refl H) (Val.of (.int _))
  · obtain ⟨v, rfl, U⟩ := vals1 V
    cases U.1
    exact ⟨_, _, rfl, ⟨hg.1, rfl⟩, k _ _ _ H hg.2 (Le.refl H) (Val.of (.int _))⟩
  · exact hg.elim
def gInt : RD := fun ds _ K => match ds with
  | [.int i] => K (.int i) True
  | [.bool b] => K (.int (if b then 1 else 0)) True
  | _ => False
theorem f_int : Fn X (.type "int") gInt := by
  refine ⟨_, call_int1, ?_⟩
  intro D0 S σ o H vs ds c K Q E V hg k
  unfold gInt at hg
  split at hg
  · obtain ⟨v, rfl, U⟩ := vals1 V
    cases U.1
    exact .inl ⟨_, rfl, k _ _ _ H hg (Le.refl H) (Val.of (.int _))⟩
  · obtain ⟨v, rfl, U⟩ := vals1 V
    cases U.1
    exact .inr ⟨_, rfl, k _ _ _ H hg (Le.refl H) (Val.of (.int _))⟩
  · exact hg.elim
def gList : RDL := fun ds c K => match ds with
  | [.list xs] => K xs (c ∨ flats xs = true)
  | [.tuple xs] => K xs (c ∨ flats xs = true)
  | _ => False
theorem fo_list : FnO X (.type "list") gList := by
  refine ⟨_, call_list_of, ?_⟩
  intro D0 S σ o H vs ds c K Q E V hg k
  unfold gList at hg
  split at hg
  · obtain ⟨v, rfl, U⟩ := vals1 V
    obtain ⟨a, ws, rfl, e, r, rc⟩ := U.items E
    exact ⟨a, ws, rfl, .inl (SqL.at e), fun l hl => k _ _ ws l H hg (Le.refl H) hl ⟨r, rc⟩⟩
  · obtain ⟨v, rfl, U⟩ := vals1 V
    obtain ⟨a, ws, rfl, e, r, rc⟩ := U.titems E
    exact ⟨a, ws, rfl, .inr (SqT.at e), fun l hl => k _ _ ws l H hg (Le.refl H) hl ⟨r, rc⟩⟩
  · exact hg.elim
def gTuple : RD := fun ds c K => match ds with
  | [.list xs] => K (.tuple xs) (c ∨ flats xs = true)
  | [.tuple xs] => K (.tuple xs) c
  | _ => False
theorem f_tuple : Fn X (.type "tuple") gTuple := by
  refine ⟨_, call_tuple_of, ?_⟩
  intro D0 S σ o H vs ds c K Q E V hg k
  unfold gTuple at hg
  split at hg
  · obtain ⟨v, rfl, U⟩ := vals1 V
    obtain ⟨a, ws, rfl, e, r, rc⟩ := U.items E
    exact ⟨a, ws, rfl, .inl ⟨SqL.at e, fun l hl => k _ _ _ _ hg (Le.new hl) (Val.newT E hl ⟨r, rc⟩)⟩⟩
  · obtain ⟨v, rfl, U⟩ := vals1 V
    obtain ⟨a, ws, rfl, e, r, rc⟩ := U.titems E
    exact ⟨a, ws, rfl, .inr ⟨SqT.at e, k _ _ _ H hg (Le.refl H) U⟩⟩
  · exact hg.elim

/-! isinstance -/
def typD : PyData → String
  | .none => "NoneType"
  | .bool _ => "bool"
  | .int _ => "int"
  | .str _ => "str"
  | .list _ => "list"
  | .tuple _ => "tuple"
  | .dict _ => "dict"
def isT (T : String) (d : PyData) : Bool := match T, d with
  | "int", .int _ => true
  | "int", .bool _ => true
  | "bool", .bool _ => true
  | "str", .str _ => true
  | "list", .list _ => true
  | "tuple", .tuple _ => true
  | "dict", .dict _ => true
  | _, _ => false
theorem rp_ty {K : PySem.W.Frag} {H : Hp} {v : V} {d : PyData} (r : Rp (co H) v d) (hd : typD d ≠ "dict") : TyX K H v (.type (typD d)) := by
  cases r with
  | non => exact .base .non
  | bl b => exact .base (.bl b)
  | int i => exact .base (.int i)
  | str s => exact .base (.str s)
  | lst e _ => exact .base (.lst (co_lst e))
  | tup e _ => exact .base (.tup (co_tup e))
  | dK e _ => exact absurd rfl hd
  | dT e _ => exact absurd rfl hd
/-- T is one of the five that are asked for -/
def okT (T : String) : Bool := T == "int" || T == "bool" || T == "str" || T == "list" || T == "tuple"
def isTb (a T : String) : Bool := a == T || (a == "bool" && T == "int")
theorem kit_all : (["NoneType", "bool", "int", "str", "list", "tuple"].all fun a => ["int", "bool", "str", "list", "tuple"].all fun T => kitB a T == some (isTb a T)) = true := by decide +kernel
theorem kit_d {d : PyData} {T : String} (hd : typD d ≠ "dict") (hT : okT T = true) : kitB (typD d) T = some (isTb (typD d) T) := by
  have h := kit_all
  rw [List.all_eq_true] at h
  have hm : typD d ∈ ["NoneType", "bool", "int", "str", "list", "tuple"] := by
    cases d <;> simp [typD] at hd ⊢
  have h2 := h _ hm
  rw [List.all_eq_true] at h2
  have hT' : T ∈ ["int", "bool", "str", "list", "tuple"] := by
    simp [okT] at hT ⊢
    rcases hT with (((h | h) | h) | h) | h <;> simp [h]
  simpa using h2 T hT'
def wIsi (T : String) (we : WEx) : WEx := fun S A B => we S (fun d _ S1 => typD d ≠ "dict" ∧ A (.bool (isTb (typD d) T)) True S1) B
theorem se_isi {T : String} {x : Str} {p q : Pos} {e : Expr} {we : WEx} (he : SE X W e we) (hm : X.mg "isinstance" = none) (hmT : X.mg x = none) (hv : bootBuiltins x = some (.type T)) (hT : okT T = true) (hg : Gl X "isinstance" := by rfl) (hgT : Gl X x := by rfl) (hn : x ≠ "__name__" := by decide) (hdb : (x == ("__debug__" : Str)) = false := by decide)
    (hst : starEach [e, .Name x q] X.env = (false, eval e X.env) :: starEach [.Name x q] X.env := by rfl) (hst2 : starEach [.Name x q] X.env = (false, eval (.Name x q) X.env) :: starEach [] X.env := by rfl) (hpl : (backTo pos (starEach [.Name x q] X.env)).any (·.1) = false := by rfl) :
    SE X W (.Call (.Name "isinstance" p) [e, .Name x q] [] pos) (wIsi T we) := by
  obtain ⟨te, pe, se⟩ := he.ex
  refine ⟨_, pe_callB call_isi hg hm (by decide +kernel) (pa_cons pe (pa_cons (pe_bltn (v := .ty T) hgT hmT hv rfl hn hdb) pa_nil hst2) hst) (by decide) (by decide) hst hpl, ?_⟩
  intro D0 S σ H o A B Q E hw k kx
  refine se D0 S σ H o _ B _ E hw (fun d c S1 v H1 h1 E1 x1 V1 => ?_) kx
  exact ⟨v, .ty T, _, _, _, rfl, .ty T, rp_ty (V1.1.mono vt_le) h1.1, kit_ty (kit_d h1.1 hT), k _ _ S1 _ H1 h1.2 E1 x1 (Val.of (.bl _))⟩

/-! least, greatest, sum -/
def ints? : List PyData → Option (List Int)
  | [] => some []
  | .int i :: r => (ints? r).map (i :: ·)
  | _ :: _ => none
theorem ints?_map : ∀ ns : List Int, ints? (ns.map PyData.int) = some ns
  | [] => rfl
  | n :: r => by
    show (ints? (r.map PyData.int)).map (n :: ·) = _
    rw [ints?_map r]
    rfl
theorem ints?_of : ∀ {ds : List PyData} {ns : List Int}, ints? ds = some ns → ds = ns.map PyData.int
  | [], _, h => by cases h; rfl
  | .int i :: r, ns, h => by
    unfold ints? at h
    cases e : ints? r with
    | none => rw [e] at h; cases h
    | some l =>
      rw [e] at h
      cases h
      rw [ints?_of e]
      rfl
  | .none :: _, _, h => by cases h
  | .bool _ :: _, _, h => by cases h
  | .str _ :: _, _, h => by cases h
  | .list _ :: _, _, h => by cases h
  | .tuple _ :: _, _, h => by cases h
  | .dict _ :: _, _, h => by cases h
theorem alike_ints (n : Int) (ns : List Int) : PySem.W.AlikeAll ((n :: ns).map PyData.int) := by
  refine ⟨fun x hx y hy => ?_, fun x hx => ?_⟩
  · obtain ⟨a, _, rfl⟩ := List.mem_map.mp hx
    obtain ⟨b, _, rfl⟩ := List.mem_map.mp hy
    rfl
  · obtain ⟨a, _, rfl⟩ := List.mem_map.mp hx
    intro z
    cases z
theorem reads_ints {s : Heap} : ∀ {us : List Value} {ns : List Int}, PyProof.Rows.IntsAre us ns → ∃ as, ReadsAll s us (ns.map PyData.int) as
  | _, _, .nil => ⟨_, .nil⟩
  | _, _, .cons n t h => let ⟨as, r⟩ := reads_ints h; ⟨_, .cons (.int n t) r⟩
def rMxS (K : PySem.W.Frag) (f : Int → Int → Int) : List V → Hp → VK → Prop := fun vs H Q => ∃ (a : Addr) (n : Int) (ns : List Int), vs = [V.ref a] ∧ (H a = some (.lst ((n :: ns).map V.int)) ∨ H a = some (.tup ((n :: ns).map V.int))) ∧ Q (.int (ns.foldl f n)) H
theorem hu_mm {A : Around} {n : Int} {ns : List Int} (h : A.units + 64 < cLine) : A.units + 1 + PyData.depthAll ((n :: ns).map PyData.int) < cLine := by
  rw [PySem.W.depth_ints]
  omega
theorem cr_mx (a : At X W k) : CallR X (.builtin "max") (rMxS X.K max) := by
  intro pins s σ H vs us Q I r h
  obtain ⟨p, n, ns, rfl, hp, q⟩ := h
  rw [Vals.ref1 r]
  have fin : ∀ {h' : Heap} {tk : Nat} {v : Value} {bs : List Addr}, Reads h' v (PySem.W.maxD (.int n) (ns.map PyData.int)) bs → (∀ b o, s.heap.get? b = some o → h'.get? b = some o) → EP X pins σ Q v { s with heap := h', toks := tk } := fun {h' tk v bs} rd hk => by
    rw [PySem.W.maxD_ints] at rd
    cases rd
    exact ⟨.int _, H, I.kept hk, ⟨_, rfl⟩, q⟩
  rcases hp with hp | hp
  · obtain ⟨its, rv, hl, _⟩ := I.list (SqL.at hp)
    obtain ⟨as, rr⟩ := reads_ints (s := s.heap) rv.ints
    exact PySem.W.max_list_data (I.ok.hd a.calm) hl.isList (x := .int n) (xs := ns.map PyData.int) rr (alike_ints n ns) (hu_mm a.u64) fun i v h' tk bs _ rd hk => fin rd hk
  · obtain ⟨its, rv, hl, _⟩ := I.tuple (SqT.at hp)
    obtain ⟨as, rr⟩ := reads_ints (s := s.heap) rv.ints
    exact PySem.W.max_tuple_data (I.ok.hd a.calm) hl (x := .int n) (xs := ns.map PyData.int) rr (alike_ints n ns) (hu_mm a.u64) fun i v h' tk bs _ rd hk => fin rd hk
theorem cr_mn (a : At X W k) : CallR X (.builtin "min") (rMxS X.K min) := by
  intro pins s σ H vs us Q I r h
  obtain ⟨p, n, ns, rfl, hp, q⟩ := h
  rw [Vals.ref1 r]
  have fin : ∀ {h' : Heap} {tk : Nat} {v : Value} {bs : List Addr}, Reads h' v (PySem.W.minD (.int n) (ns.map PyData.int)) bs → (∀ b o, s.heap.get? b = some o → h'.get? b = some o) → EP X pins σ Q v { s with heap := h', toks := tk } := fun {h' tk v bs} rd hk => by
    rw [PySem.W.minD_ints] at rd
    cases rd
    exact ⟨.int _, H, I.kept hk, ⟨_, rfl⟩, q⟩
  rcases hp with hp | hp
  · obtain ⟨its, rv, hl, _⟩ := I.list (SqL.at hp)
    obtain ⟨as, rr⟩ := reads_ints (s := s.heap) rv.ints
    exact PySem.W.min_list_data (I.ok.hd a.calm) hl.isList (x := .int n) (xs := ns.map PyData.int) rr (alike_ints n ns) (hu_mm a.u64) fun i v h' tk bs _ rd hk => fin rd hk
  · obtain ⟨its, rv, hl, _⟩ := I.tuple (SqT.at hp)
    obtain ⟨as, rr⟩ := reads_ints (s := s.heap) rv.ints
    exact PySem.W.min_tuple_data (I.ok.hd a.calm) hl (x := .int n) (xs := ns.map PyData.int) rr (alike_ints n ns) (hu_mm a.u64) fun i v h' tk bs _ rd hk => fin rd hk
def gMM (f : Int → Int → Int) : RD := fun ds _ K => match ds with
  | [.list xs] => ∃ n ns, ints? xs = some (n :: ns) ∧ K (.int (ns.foldl f n)) True
  | [.tuple xs] => ∃ n ns, ints? xs = some (n :: ns) ∧ K (.int (ns.foldl f n)) True
  | _ => False
theorem fn_mm {f : Value} {g : Int → Int → Int} (h : CallR X f (rMxS X.K g)) : Fn X f (gMM g) := by
  refine ⟨_, h, ?_⟩
  intro D0 S σ o H vs ds c K Q E V hg k
  unfold gMM at hg
  split at hg
  · obtain ⟨v, rfl, U⟩ := vals1 V
    obtain ⟨a, ws, rfl, e, r, rc⟩ := U.items E
    obtain ⟨n, ns, hi, hg⟩ := hg
    rw [ints?_of hi] at r
    rw [r.ints] at e
    exact ⟨a, n, ns, rfl, .inl e, k _ _ _ H hg (Le.refl H) (Val.of (.int _))⟩
  · obtain ⟨v, rfl, U⟩ := vals1 V
    obtain ⟨a, ws, rfl, e, r, rc⟩ := U.titems E
    obtain ⟨n, ns, hi, hg⟩ := hg
    rw [ints?_of hi] at r
    rw [r.ints] at e
    exact ⟨a, n, ns, rfl, .inr e, k _ _ _ H hg (Le.refl H) (Val.of (.int _))⟩
  · exact hg.elim
theorem f_max (a : At X W k) : Fn X (.builtin "max") (gMM max) := fn_mm (cr_mx a)
theorem f_min (a : At X W k) : Fn X (.builtin "min") (gMM min) := fn_mm (cr_mn a)
/-- max(i, j), min(i, j) -/
def g2 (f : Int → Int → Int) : RD := fun ds _ K => match ds with
  | [.int i, .int j] => K (.int (f i j)) True
  | _ => False
theorem vals2 {D0 : Addr → Bool} {o : Ow} {H : Hp} {vs : List V} {i j : Int} {c : Prop} (h : Vals' D0 o H vs [.int i, .int j] c) : vs = [.int i, .int j] := by
  obtain ⟨h1, _⟩ := h
  cases h1 with
  | cons a b =>
    cases a
    cases b with
    | cons a b =>
      cases a
      cases b
      rfl
theorem f_max2 (a : At X W k) : Fn X (.builtin "max") (g2 fun i j => if j > i then j else i) := by
  refine ⟨_, call_max2 a.calm, ?_⟩
  intro D0 S σ o H vs ds c K Q E V hg k
  unfold g2 at hg
  split at hg
  · exact ⟨_, _, vals2 V, k _ _ _ H hg (Le.refl H) (Val.of (.int _))⟩
  · exact hg.elim
theorem f_min2 (a : At X W k) : Fn X (.builtin "min") (g2 fun i j => if j < i then j else i) := by
  refine ⟨_, call_min2 a.calm, ?_⟩
  intro D0 S σ o H vs ds c K Q E V hg k
  unfold g2 at hg
  split at hg
  · exact ⟨_, _, vals2 V, k _ _ _ H hg (Le.refl H) (Val.of (.int _))⟩
  · exact hg.elim

/-! sorted -/
def leD (x y : PyData) : Bool := PySem.W.dataLe false id x y
def gSorted : RDL := fun ds c K => match ds with
  | [.list xs] => xs.length ≤ sizeLine ∧ PySem.W.AllAlike xs ∧ PySem.W.Sortable xs ∧ (∀ x ∈ xs, PyData.canLay0 x = true ∧ x.depth ≤ 60) ∧ K (xs.mergeSort leD) (c ∨ flats xs = true)
  | _ => False
theorem rp_pairs {G : Hp} : ∀ {vs : List V} {ds : List PyData}, RpAll G vs ds → ∃ ps : List (V × PyData), ps.map (·.1) = vs ∧ ps.map (·.2) = ds
  | _, _, .nil => ⟨[], rfl, rfl⟩
  | _, _, .cons (v := v) (d := d) _ b => let ⟨ps, h1, h2⟩ := rp_pairs b; ⟨(v, d) :: ps, by simp [h1], by simp [h2]⟩
theorem rp_perm {G : Hp} {ps qs : List (V × PyData)} (h : ∀ p ∈ qs, p ∈ ps) (r : RpAll G (ps.map (·.1)) (ps.map (·.2))) : RpAll G (qs.map (·.1)) (qs.map (·.2)) := by
  have at_ : ∀ p ∈ ps, Rp G p.1 p.2 := by
    clear h
    induction ps with
    | nil => intro p hp; cases hp
    | cons x l ih =>
      intro p hp
      cases r with
      | cons a b =>
        rcases List.mem_cons.mp hp with z | z
        · subst z; exact a
        · exact ih b p z
  induction qs with
  | nil => exact .nil
  | cons x l ih => exact .cons (at_ x (h x List.mem_cons_self)) (ih fun p hp => h p (List.mem_cons_of_mem _ hp))
theorem each_vals : ∀ {ps : List (V × PyData)} {us : List Value}, Vals (ps.map (·.1)) us → PySem.W.EachIs (fun u p => RelV p.1 u) us ps
  | [], _, h => by cases h; exact .nil
  | p :: ps, _, h => by
    cases h with
    | cons a b => exact .cons a (each_vals b)
theorem vals_each : ∀ {ps : List (V × PyData)} {us : List Value}, PySem.W.EachIs (fun (u : Value) (p : V × PyData) => RelV p.1 u) us ps → Vals (ps.map (·.1)) us
  | _, _, .nil => .nil
  | _, _, .cons a b => .cons a (vals_each b)
theorem each_reads {pins : List (Addr × Obj)} {σ : St} {H : Hp} {s : Shared} (I : Inv X pins σ H s) : ∀ {ps : List (V × PyData)} {us : List Value}, Vals (ps.map (·.1)) us → RpAll (co H) (ps.map (·.1)) (ps.map (·.2)) → (∀ p ∈ ps, PyData.canLay0 p.2 = true) → PySem.W.EachIs (fun u p => ∃ as, Reads s.heap u p.2 as) us ps
  | [], _, h, _, _ => by cases h; exact .nil
  | p :: ps, _, h, r, c => by
    cases h with
    | cons a b =>
      cases r with
      | cons r1 r2 => exact .cons (Dp.reads I p.2 p.1 _ (Rp.dp r1 (c p List.mem_cons_self)) a) (each_reads I b r2 fun q hq => c q (List.mem_cons_of_mem _ hq))
def rSortedD : List V → Hp → VK → Prop := fun vs H Q => ∃ (a : Addr) (ps : List (V × PyData)), vs = [V.ref a] ∧ H a = some (.lst (ps.map (·.1))) ∧ RpAll (co H) (ps.map (·.1)) (ps.map (·.2)) ∧ (∀ p ∈ ps, PyData.canLay0 p.2 = true ∧ p.2.depth ≤ 60) ∧ PySem.W.AllAlike (ps.map (·.2)) ∧ PySem.W.Sortable (ps.map (·.2)) ∧
  ∀ q, H q = none → Q (.ref q) (upd H q (.lst ((ps.mergeSort (PySem.W.dataLe false (·.2))).map (·.1))))
theorem cr_sortedD (a : At X W k) : CallR X (.builtin "sorted") rSortedD := by
  intro pins s σ H vs us Q I r h
  obtain ⟨p, ps, rfl, hp, hr, hc, h1, h2, q⟩ := h
  obtain ⟨its, rv, hl, hz⟩ := I.list (SqL.at hp)
  rw [Vals.ref1 r]
  refine PySem.W.sorted_data (R := fun u p => RelV p.1 u) (bs := ps) (enc := (·.2)) hl.isList (each_vals rv) (each_reads I rv hr fun p hp => (hc p hp).1) h1 h2 (by rw [List.length_map] at hz; exact hz) (fun b hb => by have := (hc b hb).2; have := a.room.un; omega) fun out ho eo => ?_
  obtain ⟨ep, he'⟩ := PyProof.Rows.sortedAll_at s.heap its out.toArray
  refine ⟨.ref _, upd H (s.heap.objs.size + 1) (.lst ((ps.mergeSort (PySem.W.dataLe false (·.2))).map (·.1))), I.laid (t' := s.toks) (fun _ _ => PyProof.Rows.sortedAll_old) (Nat.le_succ _) ⟨?_, out, ep, vals_each eo, he'⟩, rfl, q _ (I.hok.fresh (Nat.le_succ _))⟩
  rw [List.length_map, List.length_mergeSort]
  rw [List.length_map] at hz
  exact hz
theorem sort_snd (ps : List (V × PyData)) : (ps.mergeSort (PySem.W.dataLe false fun (p : V × PyData) => p.2)).map (·.2) = (ps.map (·.2)).mergeSort leD :=
  PySem.W.sort_maps (r := PySem.W.dataLe false fun (p : V × PyData) => p.2) (s := leD) (fun p => p.2) fun _ _ _ _ => rfl
theorem fo_sorted (a : At X W k) : FnO X (.builtin "sorted") gSorted := by
  refine ⟨_, cr_sortedD a, ?_⟩
  intro D0 S σ o H vs ds c K Q E V hg k
  unfold gSorted at hg
  split at hg
  · obtain ⟨v, rfl, U⟩ := vals1 V
    obtain ⟨p, ws, rfl, e, r, rc⟩ := U.items E
    obtain ⟨h1, h2, h3, h4, hg⟩ := hg
    obtain ⟨ps, e1, e2⟩ := rp_pairs r
    subst e1
    subst e2
    refine ⟨p, ps, rfl, e, r.mono vt_le, fun x hx => h4 _ (List.mem_map_of_mem hx), h2, h3, fun q hq => ?_⟩
    rw [← sort_snd] at hg
    exact k _ _ _ q H hg (Le.refl H) hq ⟨rp_perm (fun x hx => List.mem_mergeSort.mp hx) r, fun hc => rp_perm (fun x hx => List.mem_mergeSort.mp hx) (rc hc)⟩
  · exact hg.elim
end
end Pu

namespace Pu
open PySem L2

/-! ### enumerate of a tuple -/
section
variable {prog : Program} {w : World} {A : Around} {E : Value → Shared → Prop} {s : Shared}
theorem meets_enumT (t : Addr) (items : Array Value) (n : Nat) (dct : Option Addr) (sl : Array (Option Value)) :
    Meets (Builtin.«enumerate.__new__» ⟨[.type "enumerate", .ref t], []⟩) (fun _ R s => s.heap.get? t = some { cls := .type "tuple", dict := dct, data := .seq items n, slots := sl } ∧
      R (.ok (.ret (.ref (s.heap.push { cls := .type "tuple_iterator", data := .fields #[.ref t, .int 0 0] }).objs.size)))
        { s with heap := (s.heap.push { cls := .type "tuple_iterator", data := .fields #[.ref t, .int 0 0] }).push { cls := .type "enumerate", data := .fields #[.none, .bool false, .ref s.heap.objs.size, rawInt 0, .none, .none] } }) :=
  .of_wp fun prog w A R s h => by
    obtain ⟨hp, g, d, tk, os⟩ := s
    obtain ⟨hl, h⟩ := h
    have hsub := sub_enumerate
    have hT : Heap.IsTuple (Shared.heap ⟨hp, g, d, tk, os⟩) t items := ⟨_, hl, rfl, n, rfl⟩
    wp_walk using AutoSeq1.wpAny_loadPart' hl
    refine wpAny_stack_any fun st => wpAny_pure ?_
    split
    · rename_i c _ _ _ _ _
      cases (c == Value.type "enumerate") <;>
        (wp_walk using AutoSeq1.wpAny_loadPart' hl, wpAny_pyIter_tuple hT
         exact ⟨_, rfl, h⟩)
    · wp_walk using AutoSeq1.wpAny_loadPart' hl, wpAny_pyIter_tuple hT
      exact ⟨_, rfl, h⟩
theorem call_enumT {t : Addr} {items : Array Value} {Q : Value → Shared → Prop} (hL : s.heap.IsTuple t items)
    (h : ∀ h', IsEnum h' (s.heap.objs.size + 1) s.heap.objs.size 0 .none → h'.IsTupleIter s.heap.objs.size t 0 → (∀ b o, s.heap.get? b = some o → h'.get? b = some o) → Q (.ref (s.heap.objs.size + 1)) { s with heap := h' }) :
    wpAny (model prog w) A (call (.type "enumerate") [.ref t]) Q E s := by
  obtain ⟨⟨c, dct, dt, sl⟩, hl, hc, n, hd⟩ := hL
  have hc' : c = .type "tuple" := hc
  have hd' : dt = .seq items n := hd
  subst hc' hd'
  refine callType_new F.called_enumerate (by decide) (F.typeCall_enumerate_1 _) (F.newCall_enumerate_1 _) (fun obj => F.args_object_init_2 obj _) F.entry_enumerate_new (meets_enumT t items n dct sl) ⟨hl, ?_⟩
  have hz : (s.heap.push { cls := .type "tuple_iterator", data := .fields #[.ref t, .int 0 0] }).objs.size = s.heap.objs.size + 1 := Heap.size_push ..
  rw [hz]
  have he : IsEnum ((s.heap.push { cls := .type "tuple_iterator", data := .fields #[.ref t, .int 0 0] }).push { cls := .type "enumerate", data := .fields #[.none, .bool false, .ref s.heap.objs.size, rawInt 0, .none, .none] }) (s.heap.objs.size + 1) s.heap.objs.size 0 .none := by
    have q := Heap.get?_push_size (s.heap.push { cls := .type "tuple_iterator", data := .fields #[.ref t, .int 0 0] }) (o := { cls := .type "enumerate", data := .fields #[.none, .bool false, .ref s.heap.objs.size, rawInt 0, .none, .none] }) rfl
    rw [hz] at q
    exact q
  exact ⟨⟨_, he, rfl⟩, h _ he ⟨_, Heap.get?_push_of_some _ (Heap.get?_push_size _ rfl), rfl, rfl⟩ fun b o x => Heap.get?_push_of_some _ (Heap.get?_push_of_some _ x)⟩
end
/-- the tuple at a, its items in new pairs with their places -/
def Iteu (K : PySem.W.Frag) (a : Addr) : It :=
  ⟨fun i H => ∃ xs x, SqT K H a xs ∧ xs[i]? = some x, fun i H v H' => ∃ T x, v = .ref T ∧ H T = none ∧ H' = upd H T (.tup [.int (i : Int), x]) ∧ ∀ xs, SqT K H a xs → xs[i]? = some x, fun i H => ∃ xs, SqT K H a xs ∧ xs.length = i⟩
theorem turn_enumT {P : Program} {w : World} {K : PySem.W.Frag} {elts : List Expr} {kk : Nat} {tpos : Pos} (a e it : Addr) :
    Turn P w K (.Tuple elts kk tpos) (Iteu K a) [e, it] e (fun i h => (∃ old, IsEnum h e it ((i : Nat) : Int) old) ∧ h.IsTupleIter it a i ∧ e ≠ it) where
  mem := by simp
  obj := fun i h st b hb => by
    obtain ⟨⟨old, he⟩, ⟨o, ho, hc, hd⟩, _⟩ := st
    have hb2 : b = e ∨ b = it := by simpa using hb
    rcases hb2 with z | z
    · rw [z]
      exact ⟨_, he, fun v q => nomatch q⟩
    · rw [z]
      exact ⟨o, ho, fun v q => by rw [hd] at q; cases q⟩
  keep := fun i h h' st k => let ⟨⟨old, he⟩, hi, hne⟩ := st; ⟨⟨old, k e (by simp) _ he⟩, hi.at fun o q => k it (by simp) o q, hne⟩
  item := by
    intro X hP hw hK hc i pins s σ H E I hf st hg
    subst hP hw hK
    obtain ⟨⟨old, he⟩, hit, hne⟩ := st
    obtain ⟨xs, x, hq, hx⟩ := hg
    obtain ⟨its, rv, p, hz⟩ := I.tuple hq
    obtain ⟨u, hu, ru⟩ := rv.get hx
    have hel : e < s.heap.objs.size := Heap.lt_size he
    have hil : it < s.heap.objs.size := by
      obtain ⟨_, q, _⟩ := hit
      exact Heap.lt_size q
    have pT : s.heap.IsTuple a its.toArray := p
    have hea : e ≠ a := fun z => by
      obtain ⟨o, ho, hc, n, hd⟩ := pT
      rw [← z, he] at ho
      cases ho
      cases hd
    have hita : a ≠ it := fun z => by
      obtain ⟨o, ho, hc, n, hd⟩ := pT
      obtain ⟨o', ho', hc', hd'⟩ := hit
      rw [z, ho'] at ho
      cases ho
      rw [hd'] at hd
      cases hd
    have hlt : i < its.toArray.size := by
      rw [List.size_toArray]
      exact (List.getElem?_eq_some_iff.mp hu).1
    refine wpAny_pyNext_enum_itemC (Draws.tuple (prog := X.prog) (w := X.w) (A := X.A.in1) (I.ok.hd hc) it a hita its.toArray) he ⟨hit, pT⟩ hlt hne (by simp [hne, hea]) fun y h' tk hy ho hit' hT hsz hk => ?_
    have hy' : y = u := by
      have q : its.toArray[i]? = some y := hy
      rw [List.getElem?_toArray, hu] at q
      exact (Option.some.inj q).symm
    subst hy'
    refine ⟨_, rfl, wpAny_letOwnedTupleGo_enum (s := { s with heap := h', toks := tk + 1 }) ho fun h2 he2 sb => ?_⟩
    have hT2 : h2.get? s.heap.objs.size = some { cls := .type "tuple", data := .seq #[.int i tk, y] } := (sb.2 _ (Nat.ne_of_gt hel)).trans hT
    have new : ObjOk X.prog X.w (upd H s.heap.objs.size (.tup [.int (i : Nat), x])) h2 s.heap.objs.size (.tup [.int (i : Nat), x]) :=
      ⟨by show 2 ≤ sizeLine; decide, [.int i tk, y], .cons ⟨_, rfl⟩ (.cons ru .nil), ⟨_, hT2, rfl, _, rfl⟩⟩
    have I1 : Inv X pins σ (upd H s.heap.objs.size (.tup [.int (i : Nat), x])) { s with heap := h2, toks := tk + 1 } :=
      I.turnedNew (ch := [e, it]) (fun b ob hb q => (sb.2 b (fun z => hb (by simp [z]))).trans (hk b ob (fun z => hb (by simp [z])) (fun z => hb (by simp [z])) q)) hf (Nat.le_refl _) new
    refine ⟨.ref s.heap.objs.size, _, I1, rfl, ⟨_, x, rfl, I.hok.fresh (Nat.le_refl _), rfl, fun ys hy => by rw [I.tuple_inj hy hq]; exact hx⟩, ⟨⟨y, ?_⟩, hit'.1.at fun o q => (sb.2 it (Ne.symm hne)).trans q, hne⟩, fun b hb => ?_⟩
    · have e1 : ((i + 1 : Nat) : Int) = (i : Int) + 1 := by omega
      rw [e1]
      exact he2
    · have hb2 : b < s.heap.objs.size := by
        have e' : b = e ∨ b = it := by simpa using hb
        rcases e' with z | z
        · rw [z]; exact hel
        · rw [z]; exact hil
      rw [upd_ne (Nat.ne_of_lt hb2)]
      exact (hf b hb).1
  done := by
    intro X hP hw hK hc i pins s σ H E I hf st hg
    subst hP hw hK
    obtain ⟨⟨old, he⟩, hit, hne⟩ := st
    obtain ⟨xs, hq, hx⟩ := hg
    obtain ⟨its, rv, p, hz⟩ := I.tuple hq
    obtain ⟨f0, f1, f2, f3, f4, f5⟩ := hf it (by simp)
    have hl := rv.length
    have pT : s.heap.IsTuple a its.toArray := p
    have hita : a ≠ it := fun z => by
      obtain ⟨o, ho, hc, n, hd⟩ := pT
      obtain ⟨o', ho', hc', hd'⟩ := hit
      rw [z, ho'] at ho
      cases ho
      rw [hd'] at hd
      cases hd
    have D := (Draws.tuple (prog := X.prog) (w := X.w) (A := X.A.in1) (I.ok.hd hc) it a hita its.toArray)
    have hn : i = its.toArray.size := by
      rw [List.size_toArray, ← hl]
      exact hx.symm
    exact wpAny_pyNext_enum_endD D he (by rw [← hn]; exact ⟨hit, pT⟩) fun h' eb => ⟨rfl, I.turned (t' := s.toks) (fun b o hb q => eb b o hb q) f0 f1 f3 f4 f5⟩
  self := fun A i s Q E st h => let ⟨⟨_, he⟩, _⟩ := st; wpAny_pyIter_enum he h
def iEnuT (K : PySem.W.Frag) (ta : TA) : TI := fun σ H R => ta σ H fun vs H1 => ∃ a xs, vs = [.ref a] ∧ SqT K H1 a xs ∧ R (Iteu K a) H1
theorem pi_enumT {X : Cx} {e : Expr} {ta : TA} {p pos tpos : Pos} {elts : List Expr} {kk : Nat} (hg : Gl X "enumerate") (hm : X.mg "enumerate" = none) (ha : PA X [e] ta) (hs : starEach [e] X.env = [(false, eval e X.env)] := by rfl) :
    PI X (.Tuple elts kk tpos) (.Call (.Name "enumerate" p) [e] [] pos) (iEnuT X.K ta) := by
  refine ⟨fun pins s σ H R I h => ?_⟩
  refine PyProof.Rows.Call_ (ld_blt I hg hm PyProof.Rows.boot_enumerate (PyProof.Rows.callWith_type1 (thn (ha.run pos pins s σ H _ I h) fun us s1 ⟨vs, H1, I1, r1, q1⟩ => ?_) hs rfl))
  obtain ⟨a, xs, ex, hq, q⟩ := q1
  subst ex
  rw [Vals.ref1 r1]
  obtain ⟨its, rv, p', hz⟩ := I1.tuple hq
  refine call_enumT (show s1.heap.IsTuple a its.toArray from p') fun h' he hit hk => wpAny_pyIter_enum he ?_
  have I2 : Inv X pins σ H1 { s1 with heap := h' } := I1.kept (t' := s1.toks) hk
  refine ⟨s1.heap.objs.size + 1, [s1.heap.objs.size + 1, s1.heap.objs.size], _, _, H1, rfl, I2, turn_enumT a (s1.heap.objs.size + 1) s1.heap.objs.size, ⟨⟨.none, he⟩, hit, Nat.succ_ne_self _⟩, fun b hb => ?_, q⟩
  have hb2 : b = s1.heap.objs.size + 1 ∨ b = s1.heap.objs.size := by simpa using hb
  have hle : s1.heap.objs.size ≤ b := by
    rcases hb2 with z | z
    · rw [z]; exact Nat.le_succ _
    · rw [z]; exact Nat.le_refl _
  exact I1.fpOk hle (I1.hok.fresh hle)

section
variable {X : Cx} {W : WM} {k : Nat} {pos : Pos}
def enumFr (n : Nat) : List PyData → List PyData
  | [] => []
  | d :: r => .tuple [.int (n : Int), d] :: enumFr (n + 1) r
theorem enumFr_len : ∀ (ds : List PyData) (n : Nat), (enumFr n ds).length = ds.length
  | [], _ => rfl
  | d :: r, n => by
    show (enumFr (n + 1) r).length + 1 = r.length + 1
    rw [enumFr_len r]
theorem enumFr_get : ∀ {ds : List PyData} {n i : Nat} {d : PyData}, (enumFr n ds)[i]? = some d → ∃ x, ds[i]? = some x ∧ d = .tuple [.int ((n + i : Nat) : Int), x]
  | [], _, _, _, h => by simp [enumFr] at h
  | x :: r, n, 0, d, h => ⟨x, rfl, (Option.some.inj h).symm⟩
  | x :: r, n, i + 1, d, h => by
    obtain ⟨y, h1, h2⟩ := enumFr_get (ds := r) (n := n + 1) (i := i) h
    refine ⟨y, h1, ?_⟩
    rw [h2]
    have e : n + 1 + i = n + (i + 1) := by omega
    rw [e]
theorem wk_enumT {K : PySem.W.Frag} {a : Addr} {ds : List PyData} {c : Prop} : Wk (Iteu K a) (enumFr 0 ds) c (zT a ds c) where
  go := fun D0 o H i z hi => (wk_tup (K := K)).go D0 o H i z (by rw [enumFr_len] at hi; exact hi)
  stop := fun D0 o H z => by
    obtain ⟨b, vs, e, h, r⟩ := rp_tup z.1
    cases e
    exact ⟨vs, SqT.at (co_tup (vt_le _ _ h)), by rw [enumFr_len, r.length]⟩
  yld := fun D0 S σ o H i x H' d z E hd y => by
    obtain ⟨T, y1, rfl, nT, rfl, hy⟩ := y
    obtain ⟨x2, hx2, rfl⟩ := enumFr_get hd
    obtain ⟨le, V⟩ := (wk_tup (K := K)).yld D0 S σ o H i y1 H x2 z E hx2 ⟨rfl, hy⟩
    refine ⟨Le.new nT, Val.newT E nT ⟨.cons ?_ (.cons V.1 .nil), fun hc => .cons ?_ (.cons (V.2 hc) .nil)⟩⟩
    · rw [Nat.zero_add]
      exact .int _
    · rw [Nat.zero_add]
      exact .int _
  xe := fun D0 D0' o H H' z l1 l2 => ⟨z.1.mono l1, fun hc => (z.2 hc).mono l2⟩
  fr := fun D0 o H o' H' hc z l => ⟨((z.2 hc).mono l).mono vw_le_vt, fun _ => (z.2 hc).mono l⟩
theorem wk_enumL {K : PySem.W.Frag} {a : Addr} {ds : List PyData} {c : Prop} : Wk (Ite K a) (enumFr 0 ds) c (zL a ds c) where
  go := fun D0 o H i z hi => (wk_list (K := K)).go D0 o H i z (by rw [enumFr_len] at hi; exact hi)
  stop := fun D0 o H z => by
    obtain ⟨b, vs, e, h, r⟩ := rp_lst z.1
    cases e
    exact ⟨vs, SqL.at (co_lst (vt_le _ _ h)), by rw [enumFr_len, r.length]; exact Nat.le_refl _⟩
  yld := fun D0 S σ o H i x H' d z E hd y => by
    obtain ⟨T, y1, rfl, nT, rfl, hy⟩ := y
    obtain ⟨x2, hx2, rfl⟩ := enumFr_get hd
    obtain ⟨le, V⟩ := (wk_list (K := K)).yld D0 S σ o H i y1 H x2 z E hx2 ⟨rfl, hy⟩
    refine ⟨Le.new nT, Val.newT E nT ⟨.cons ?_ (.cons V.1 .nil), fun hc => .cons ?_ (.cons (V.2 hc) .nil)⟩⟩
    · rw [Nat.zero_add]
      exact .int _
    · rw [Nat.zero_add]
      exact .int _
  xe := fun D0 D0' o H H' z l1 l2 => ⟨z.1.mono l1, fun hc => (z.2 hc).mono l2⟩
  fr := fun D0 o H o' H' hc z l => ⟨((z.2 hc).mono l).mono vw_le_vt, fun _ => (z.2 hc).mono l⟩
def wEnT (wl : WEx) : WLs := fun S A B => wl S (fun d c S1 => match d with
  | .tuple ds => A (enumFr 0 ds) (c ∨ flats ds = true) S1
  | _ => False) B
def wEnL (wl : WEx) : WLs := fun S A B => wl S (fun d c S1 => match d with
  | .list ds => A (enumFr 0 ds) c S1
  | _ => False) B
theorem si_enT {e : Expr} {p tpos : Pos} {elts : List Expr} {kk : Nat} {we : WEx} (a : At X W k) (hm : X.mg "enumerate" = none) (he : SE X W e we) (hg : Gl X "enumerate" := by rfl) (hs : starEach [e] X.env = [(false, eval e X.env)] := by rfl) :
    SI X W (.Tuple elts kk tpos) (.Call (.Name "enumerate" p) [e] [] pos) (wEnT we) := by
  obtain ⟨te, pe, se⟩ := he.ex
  refine ⟨_, pi_enumT hg hm (pa_cons pe pa_nil hs) hs, ?_⟩
  intro D0 S σ H o A B R E hw k kx
  refine se D0 S σ H o _ B _ E hw (fun d c S1 v H1 h1 E1 x1 V1 => ?_) kx
  split at h1
  · have V2 := V1.flat E1
    obtain ⟨a, vs, rfl, e, r, _⟩ := V1.titems E1
    exact ⟨a, vs, rfl, SqT.at e, k _ _ S1 _ H1 _ h1 E1 x1 wk_enumT ⟨V2.1, fun z => V2.2 (z.elim .inl fun f => .inr (by rw [flat]; exact f))⟩⟩
  · exact h1.elim
theorem si_enL {e : Expr} {p tpos : Pos} {elts : List Expr} {kk : Nat} {we : WEx} (a : At X W k) (hm : X.mg "enumerate" = none) (he : SE X W e we) (hg : Gl X "enumerate" := by rfl) (hs : starEach [e] X.env = [(false, eval e X.env)] := by rfl) :
    SI X W (.Tuple elts kk tpos) (.Call (.Name "enumerate" p) [e] [] pos) (wEnL we) := by
  obtain ⟨te, pe, se⟩ := he.ex
  refine ⟨_, pi_enum hg hm (pa_cons pe pa_nil hs) hs, ?_⟩
  intro D0 S σ H o A B R E hw k kx
  refine se D0 S σ H o _ B _ E hw (fun d c S1 v H1 h1 E1 x1 V1 => ?_) kx
  split at h1
  · obtain ⟨a, vs, rfl, e, r, _⟩ := V1.items E1
    exact ⟨a, vs, rfl, SqL.at e, k _ _ S1 _ H1 _ h1 E1 x1 wk_enumL ⟨V1.1, V1.2⟩⟩
  · exact h1.elim

/-! ### not of a list, -n, a chain as a test -/
def wNotT (wa : WEx) : WEx := fun S A B => wa S (fun d _ S1 => match d with
  | .list xs => A (.bool xs.isEmpty) True S1
  | .tuple xs => A (.bool xs.isEmpty) True S1
  | _ => False) B
theorem se_notT {a : Expr} {wa : WEx} (ha : SE X W a wa) : SE X W (.UnaryOp .Not a pos) (wNotT wa) := by
  obtain ⟨ta, pa, sa⟩ := ha.ex
  refine ⟨_, pe_notT pa, ?_⟩
  intro D0 S σ H o A B Q E hw k kx
  refine sa D0 S σ H o _ B _ E hw (fun d c S1 v H1 h1 E1 x1 V1 => ?_) kx
  split at h1
  · obtain ⟨a, vs, rfl, e, r, _⟩ := V1.items E1
    refine ⟨_, .inl ⟨vs, SqL.at e, rfl⟩, ?_⟩
    rw [Bool.not_not, rp_isEmpty r]
    exact k _ _ S1 _ H1 h1 E1 x1 (Val.of (.bl _))
  · obtain ⟨a, vs, rfl, e, r, _⟩ := V1.titems E1
    refine ⟨_, .inr (.inl ⟨vs, SqT.at e, rfl⟩), ?_⟩
    rw [Bool.not_not, rp_isEmpty r]
    exact k _ _ S1 _ H1 h1 E1 x1 (Val.of (.bl _))
  · exact h1.elim
def wNeg (wa : WEx) : WEx := fun S A B => wa S (fun d _ S1 => match d with
  | .int i => A (.int (-i)) True S1
  | _ => False) B
theorem se_neg {a : Expr} {wa : WEx} (ha : SE X W a wa) : SE X W (.UnaryOp .USub a pos) (wNeg wa) := by
  obtain ⟨ta, pa, sa⟩ := ha.ex
  refine ⟨_, pe_un un_neg pa, ?_⟩
  intro D0 S σ H o A B Q E hw k kx
  refine sa D0 S σ H o _ B _ E hw (fun d c S1 v H1 h1 E1 x1 V1 => ?_) kx
  split at h1
  · cases V1.1
    exact ⟨_, rfl, k _ _ S1 _ H1 h1 E1 x1 (Val.of (.int _))⟩
  · exact h1.elim
theorem st_chain {op op' : CmpOp} {g g' : R2D} {a b c : Expr} {wa wb wc : WEx} (ho : Op2 X (compareOp op) g) (ho' : Op2 X (compareOp op') g') (ha : SE X W a wa) (hb : SE X W b wb) (hc : SE X W c wc)
    (hm : lastMarks [op, op'] [b, c] = false := by with_unfolding_all rfl) : ST X W (.Compare a [op, op'] [b, c] pos) (wB (wChain g g' wa wb wc)) := by
  obtain ⟨ta, pa, sa⟩ := ha.ex
  obtain ⟨tb, pb, sb⟩ := hb.ex
  obtain ⟨tc, pc, sc⟩ := hc.ex
  obtain ⟨r, hr, h⟩ := ho.ex
  obtain ⟨r', hr', h'⟩ := ho'.ex
  refine ⟨_, pt_chain hr hr' pa pb pc hm, ?_⟩
  intro D0 S σ H o A B Q E hw k kx
  refine sa D0 S σ H o _ B _ E hw (fun d c S1 v H1 h1 E1 x1 V1 => ?_) kx
  refine sb D0 S1 σ H1 o _ B _ E1 h1 (fun d2 c2 S2 v2 H2 h2 E2 x2 V2 => ?_) (kx.on x1)
  refine h D0 S2 σ o H2 v v2 d d2 c c2 _ _ E2 (V1.mono x2) V2 h2 fun z dz cz H3 hz le V => ?_
  have x3 := (x1.trans x2).trans (XE.of le)
  have E3 := E2.xe le
  have V2' := V2.mono (XE.of le)
  obtain ⟨b, rfl, hz⟩ := bl_rp V.1 hz
  refine ⟨b, rfl, ?_⟩
  cases b with
  | true =>
    rw [if_pos rfl] at hz ⊢
    refine sc D0 S2 σ H3 o _ B _ E3 hz (fun d4 c4 S4 v4 H4 h4 E4 x4 V4 => ?_) (kx.on x3)
    refine h' D0 S4 σ o H4 v2 v4 d2 d4 c2 c4 _ _ E4 (V2'.mono x4) V4 h4 fun z' dz' cz' H' hz' le' V' => ?_
    obtain ⟨b, rfl, hb⟩ := bl_rp V'.1 hz'
    exact ⟨b, rfl, k b S4 H' hb (E4.xe le') ((x3.trans x4).trans (XE.of le'))⟩
  | false =>
    rw [if_neg Bool.false_ne_true] at hz ⊢
    exact ⟨false, rfl, k false S2 H3 hz E3 x3⟩

/-! ### raise X(), X a class of the text without __init__ -/
structure RaiseC (K : PySem.W.Frag) (mg : Str → Option Value) (x : Str) : Prop where
  ex : ∃ C, mg x = some (.ref C) ∧ PySem.W.keepIn K (.ref C) = true ∧ PySem.W.excIn K C [.type "ValueError", .type "Exception", .type "BaseException", .type "object"] "ValueError.__new__" = true ∧
    PySem.W.subIn K (.ref C) (.type "BaseException") = some true ∧ PySem.W.typeIn K (.ref C) = some (.type "type")
theorem pmk_own0 {C : Addr} {bmB : List Value} {B newId initId : String} {x : Str} {p pos : Pos} (F : ExcBaseFacts B newId initId bmB) (q : PySem.W.excIn X.K C bmB newId = true) (gC : X.mg x = some (.ref C)) (kC : PySem.W.keepIn X.K (.ref C) = true) (r : Raises X (.ref C)) (hg : Gl X x)
    (hdb : (x == ("__debug__" : Str)) = false := by decide) : PMk X (.Call (.Name x p) [] [] pos) (fun _ H Q => Q (.ref C) none H) := by
  intro pins s σ H Q I h
  refine wpAny_Call_Name_kw (ld_glob I hg gC ?_ hdb)
  refine PySem.W.callWith_K0 I.kIn kC ?_
  show wpAny _ _ (call (.ref C) []) _ _ _
  obtain ⟨bm, N, nm, qn, bs, hdct, sn, sub, ab, col, dd, k0, k1, k2, k3, k5, mN, hC, hN, hni, T⟩ := exc_obj I.kIn q
  refine PySem.wpAny_call_exc_subT F T hC hN hni (fun h' e hm => ?_) (by show 0 ≤ sizeLine; exact Nat.zero_le _)
  exact mk_of I hm r h (I.hok.gone hm.new)
def wRaise (x : Str) : WS := fun S P => P.ex (x, []) S
theorem ss_raise {x : Str} {p cp : Pos} (a : At X W k) (R : RaiseC X.K X.mg x) (hg : Gl X x := by rfl) (hdb : (x == ("__debug__" : Str)) = false := by decide) : SS X W (.Raise (some (.Call (.Name x p) [] [] cp)) none pos) (wRaise x) := by
  obtain ⟨C, gC, kC, q, h1, h2⟩ := R.ex
  refine ⟨_, ps_raise a.calm a.tx (pmk_own0 PySem.F.excBase_ValueError q gC kC (raises_own h1 h2) hg hdb), ?_⟩
  intro D0 S σ H o P D E hw g
  exact g.ex _ _ _ _ _ _ _ hw E (Fr.refl _ _) ⟨⟨C, by rw [a.mq]; exact gC, rfl⟩, .inl rfl⟩
end
end Pu

namespace Pu
open PySem L2

/-! ### the source of draws -/
def RngAt (H : Hp) (a c : Addr) : Prop := ∃ (st ix : Int) (ns : List Int), H a = some (.lst [.int st, .ref c, .int ix]) ∧ H c = some (.lst (ns.map V.int)) ∧ ns.length ≤ 63
/-- all but a and c stands -/
def But (a c : Addr) (H H' : Hp) : Prop := ∀ b u, b ≠ a → b ≠ c → H b = some u → H' b = some u
/-- _law_next(h, n): a number below n -/
def spNext : Sp := fun vs H Q _ => ∃ (a c : Addr) (n : Int), vs = [.ref a, .int n] ∧ a ≠ c ∧ RngAt H a c ∧ 1 ≤ n ∧ n ≤ 10 ^ 31 ∧ ∀ r H', 0 ≤ r → r < n → But a c H H' → RngAt H' a c → Q (.int r) H'
/-- _law_mix(script, seed) -/
def spMix (K : PySem.W.Frag) : Sp := fun vs H Q _ => ∃ (a : Addr) (ns : List Int) (seed : Int), vs = [.ref a, .int seed] ∧ SqL K H a (ns.map V.int) ∧ ns.length ≤ 63 ∧
  ∀ p c H', H p = none → H c = none → p ≠ c → Le H H' → RngAt H' p c → Q (.ref p) H'
def orng (a c : Addr) (i : Nat) (o : Ow) : Ow := fun b => if b = a ∨ b = c then some (i, true) else o b

section
variable {X : Cx} {W : WM} {k : Nat} {pos : Pos}
theorem rng_of {H : Hp} {a c : Addr} {st ix : Int} {ns : List Int} (h1 : co H a = some (.lst [.int st, .ref c, .int ix])) (h2 : co H c = some (.lst (ns.map V.int))) (h3 : ns.length ≤ 63) : RngAt H a c := ⟨st, ix, ns, co_lst h1, co_lst h2, h3⟩
theorem RngAt.co {H : Hp} {a c : Addr} (h : RngAt H a c) : ∃ (st ix : Int) (ns : List Int), Pu.co H a = some (.lst [.int st, .ref c, .int ix]) ∧ Pu.co H c = some (.lst (ns.map V.int)) ∧ ns.length ≤ 63 := by
  obtain ⟨st, ix, ns, h1, h2, h3⟩ := h
  exact ⟨st, ix, ns, co_of h1, co_of h2, h3⟩
/-- the frame's source of draws has turned -/
theorem Env.turn {D0 : Addr → Bool} {S : Slots} {σ : St} {H H' : Hp} {o : Ow} {a c : Addr} {i : Nat} (E : Env D0 S σ (co H) o) (ha : o a = some (i, true)) (hc : o c = some (i, true)) (hi : S[i]? = some (.rng a c)) (hσ : σ[i]? = some (some (.ref a))) (hac : a ≠ c) (b : But a c H H') (r : RngAt H' a c) :
    Env D0 S σ (co H') o ∧ XE o H H' := by
  have x : XE o H H' := fun d u m e => b d u (fun z => by rw [z, ha] at m; cases m) (fun z => by rw [z, hc] at m; cases m) e
  obtain ⟨st, ix, ns, r1, r2, r3⟩ := r.co
  have cx : ∀ d u, d ≠ a → d ≠ c → co H d = some u → co H' d = some u := fun d u n1 n2 h => by
    unfold co at h ⊢
    cases z : H d with
    | none => rw [z] at h; cases h
    | some y => rw [b d y n1 n2 z]; rw [z] at h; exact h
  refine ⟨⟨E.len, fun d p e => ?_, fun d e => ?_, fun j s e => ?_⟩, x⟩
  · obtain ⟨h1, u, h2, h3⟩ := E.live d p e
    refine ⟨h1, ?_⟩
    by_cases n1 : d = a
    · subst n1; exact ⟨_, r1, rfl⟩
    · by_cases n2 : d = c
      · subst n2; exact ⟨_, r2, rfl⟩
      · exact ⟨u, cx _ _ n1 n2 h2, h3⟩
  · obtain ⟨u, h2, h3⟩ := E.dead d e
    have n1 : d ≠ a := fun z => by rw [z, (E.live a _ ha).1] at e; cases e
    have n2 : d ≠ c := fun z => by rw [z, (E.live c _ hc).1] at e; cases e
    exact ⟨u, cx _ _ n1 n2 h2, h3⟩
  · have q := E.sl j s e
    have ne : ∀ {d : Addr} {j : Nat}, o d = some (j, false) → d ≠ a ∧ d ≠ c := fun {d j} e => ⟨fun z => (by rw [z, ha] at e; cases e), fun z => (by rw [z, hc] at e; cases e)⟩
    cases s with
    | un => trivial
    | im d => obtain ⟨v, h1, h2⟩ := q; exact ⟨v, h1, h2.mono x.vw⟩
    | ol xs => obtain ⟨d, vs, h1, h2, h3, h4⟩ := q; exact ⟨d, vs, h1, h2, cx _ _ (ne h2).1 (ne h2).2 h3, h4.mono x.vw⟩
    | od es =>
      obtain ⟨d, h1, h2, h3⟩ := q
      refine ⟨d, h1, h2, ?_⟩
      rcases h3 with ⟨kvs, h3, h4⟩ | ⟨kvs, h3, h4⟩
      · exact .inl ⟨kvs, cx _ _ (ne h2).1 (ne h2).2 h3, h4.mono x.vw⟩
      · exact .inr ⟨kvs, cx _ _ (ne h2).1 (ne h2).2 h3, h4.mono x.vw⟩
    | rng d f =>
      obtain ⟨st', ix', ns', h1, h2, h3, h4, h5, h6, h7⟩ := q
      by_cases z : j = i
      · subst z
        rw [hi] at e
        cases e
        exact ⟨st, ix, ns, hσ, ha, hc, hac, r1, r2, r3⟩
      · have n1 : d ≠ a ∧ d ≠ c := ⟨fun q => (by rw [q, ha] at h2; cases h2; exact z rfl), fun q => (by rw [q, hc] at h2; cases h2; exact z rfl)⟩
        have n2 : f ≠ a ∧ f ≠ c := ⟨fun q => (by rw [q, ha] at h3; cases h3; exact z rfl), fun q => (by rw [q, hc] at h3; cases h3; exact z rfl)⟩
        exact ⟨st', ix', ns', h1, h2, h3, h4, cx _ _ n1.1 n1.2 h5, cx _ _ n2.1 n2.2 h6, h7⟩
/-- _law_next(h, e) -/
def wDraw (i : Nat) (we : WEx) : WEx := fun S A B => ∃ a c, S[i]? = some (.rng a c) ∧ we S (fun d _ S1 => match d with
  | .int n => S1[i]? = some (.rng a c) ∧ 1 ≤ n ∧ n ≤ 10 ^ 31 ∧ ∀ r, 0 ≤ r → r < n → A (.int r) True S1
  | _ => False) B
theorem se_draw {j : Nat} (i : Nat) {x : Str} {p q : Pos} {e : Expr} {we : WEx} (a : At X W k) (F : Def X.prog X.w X.K X.mg X.base j "_law_next" 2 spNext) (hj : j ≤ k) (he : SE X W e we) (hN : X.N[i]? = some x := by rfl) (hv : Vis X.env.scope x := by first | exact Or.inl rfl | exact Or.inr (Or.inl rfl) | exact Or.inr (Or.inr rfl))
    (hd : (x == ("__debug__" : Str)) = false := by decide) (hcd : (x == ("__classdict__" : Str)) = false := by decide) (hg : Gl X "_law_next" := by rfl)
    (hst : starEach [.Name x q, e] X.env = (false, eval (.Name x q) X.env) :: starEach [e] X.env := by rfl) (hst2 : starEach [e] X.env = (false, eval e X.env) :: starEach [] X.env := by rfl) (hpl : (backTo pos (starEach [e] X.env)).any (·.1) = false := by rfl) :
    SE X W (.Call (.Name "_law_next" p) [.Name x q, e] [] pos) (wDraw i we) := by
  obtain ⟨te, pe, se⟩ := he.ex
  obtain ⟨f, fd, ps, G, hm, hk, hb, hps⟩ := F.ex
  refine ⟨_, pe_callS G (a.room.mono hj) hg hm hk hb a.tk (pa_cons (pe_var hN hv hd hcd) (pa_cons pe pa_nil hst2) hst) (by decide) hst hpl, ?_⟩
  intro D0 S σ H o A B Q E hw kk kx
  obtain ⟨ra, rc, h0, hw⟩ := hw
  obtain ⟨st, ix, ns, h1, h2, h3, h4, h5, h6, h7⟩ := E.sl i _ h0
  refine ⟨.ref ra, h1, se D0 S σ H o _ B _ E hw (fun d c S1 v H1 h8 E1 x1 V1 => ?_) kx⟩
  split at h8
  · obtain ⟨g1, g2, g3, g4⟩ := h8
    cases V1.1
    obtain ⟨st', ix', ns', m1, m2, m3, m4, m5, m6, m7⟩ := E1.sl i _ g1
    refine ⟨ra, rc, _, rfl, m4, rng_of m5 m6 m7, g2, g3, fun r H' r0 rn bt rg => ?_⟩
    obtain ⟨E2, x2⟩ := E1.turn m2 m3 g1 h1 m4 bt rg
    exact kk _ _ S1 _ H' (g4 r r0 rn) E2 (x1.trans x2) (Val.of (.int _))
  · exact h8.elim

/-! ### defs whose first parameter is the source of draws -/
def spOfR (mg : Str → Option Value) (n : Nat) (sp : Spc) : Sp := fun vs H Q E => ∃ (a c : Addr) (us : List V) (ds : List PyData) (D0 : Addr → Bool) (A : PyData → Prop) (B : XC → Prop), vs = .ref a :: us ∧ a ≠ c ∧ RngAt H a c ∧ ds.length = n ∧
  D0 a = false ∧ D0 c = false ∧ (∀ b, D0 b = true → ∃ u, co H b = some u ∧ isTup u = false) ∧ RpAll (vw D0 (orng a c 0 fun _ => none) (co H)) us ds ∧ sp ds A B ∧
  (∀ d v H', A d → But a c H H' → RngAt H' a c → Rp (vw D0 (orng a c 0 fun _ => none) (co H')) v d → Q v H') ∧ (∀ x cls dd H', B x → But a c H H' → RngAt H' a c → XOk mg H' x cls dd → E cls dd H')
theorem spOfR_len {mg : Str → Option Value} {n : Nat} {sp : Spc} {vs : List V} {H : Hp} {Q : VK} {E : XK} (h : spOfR mg n sp vs H Q E) : vs.length = n + 1 := by
  obtain ⟨a, c, us, ds, D0, A, B, rfl, _, _, h1, _, _, _, h2, _⟩ := h
  rw [List.length_cons, h2.length, h1]
def wCallR (i : Nat) (sp : Spc) (wa : WLs) : WEx := fun S A B => ∃ a b, S[i]? = some (.rng a b) ∧ wa S (fun ds c S1 => S1[i]? = some (.rng a b) ∧ sp ds (fun d => A d c S1) (fun x => B x S1)) B
theorem vw_borrow {D0 : Addr → Bool} {o : Ow} {C : Hp} {a c : Addr} {p q : Nat × Bool} (ha : o a = some p) (hc : o c = some q) :
    vw (fun b => (D0 b || (o b).isSome) && !decide (b = a) && !decide (b = c)) (orng a c 0 fun _ => none) C = vw D0 o C := by
  funext b
  unfold vw orng
  by_cases z1 : b = a
  · subst z1; simp [ha]
  · by_cases z2 : b = c
    · subst z2; simp [hc]
    · simp [z1, z2]
theorem vt_borrow {D0 : Addr → Bool} {o : Ow} {C : Hp} {a c : Addr} {i : Nat} (ha : o a = some (i, true)) (hc : o c = some (i, true)) :
    vw (fun b => (D0 b || mutO (o b)) && !decide (b = a) && !decide (b = c)) (orng a c 0 fun _ => none) C = vt D0 o C := by
  funext b
  unfold vw vt orng
  by_cases z1 : b = a
  · subst z1; simp [ha, mutO]
  · by_cases z2 : b = c
    · subst z2; simp [hc, mutO]
    · simp [z1, z2]
theorem se_callR {j n : Nat} (i : Nat) {sp : Spc} {x y : Str} {p q : Pos} {es : List Expr} {wa : WLs} (a : At X W k) (F : Def X.prog X.w X.K X.mg X.base j y (n + 1) (spOfR X.mg n sp)) (hj : j ≤ k) (ha : SA X W es wa) (hN : X.N[i]? = some x := by rfl) (hv : Vis X.env.scope x := by first | exact Or.inl rfl | exact Or.inr (Or.inl rfl) | exact Or.inr (Or.inr rfl))
    (hd : (x == ("__debug__" : Str)) = false := by decide) (hcd : (x == ("__classdict__" : Str)) = false := by decide) (hg : Gl X y := by rfl) (hdb : (y == ("__debug__" : Str)) = false := by decide)
    (hst : starEach (.Name x q :: es) X.env = (false, eval (.Name x q) X.env) :: starEach es X.env := by rfl) (hpl : (backTo pos (starEach es X.env)).any (·.1) = false := by rfl) (hn : es.length = n := by rfl) :
    SE X W (.Call (.Name y p) (.Name x q :: es) [] pos) (wCallR i sp wa) := by
  obtain ⟨ta, pa, sa⟩ := ha.ex
  obtain ⟨f, fd, ps, G, hm, hk, hb, hps⟩ := F.ex
  refine ⟨_, pe_callS G (a.room.mono hj) hg hm hk hb a.tk (pa_cons (pe_var hN hv hd hcd) pa hst) hdb hst hpl, ?_⟩
  intro D0 S σ H o A B Q E hw kk kx
  obtain ⟨ra, rc, h0, hw⟩ := hw
  obtain ⟨st, ix, ns, h1, h2, h3, h4, h5, h6, h7⟩ := E.sl i _ h0
  refine ⟨.ref ra, h1, sa D0 S σ H o _ B _ E hw (fun ds c S1 vs H1 hl h8 E1 x1 V1 => ?_) kx⟩
  obtain ⟨g1, h8⟩ := h8
  obtain ⟨st', ix', ns', m1, m2, m3, m4, m5, m6, m7⟩ := E1.sl i _ g1
  have ends : ∀ H', But ra rc H1 H' → RngAt H' ra rc → Env D0 S1 σ (co H') o ∧ XE o H1 H' := fun H' bt rg => E1.turn m2 m3 g1 h1 m4 bt rg
  have ex : ∀ x cls dd H', B x S1 → But ra rc H1 H' → RngAt H' ra rc → XOk X.mg H' x cls dd → W.w cls dd σ H' := fun x cls dd H' hx bt rg ok => by
    obtain ⟨E2, x2⟩ := ends H' bt rg
    exact kx x S1 cls dd H' hx E2 (x1.trans x2) (by rw [a.mq]; exact ok)
  by_cases hc : c
  · refine ⟨ra, rc, vs, ds, fun b => (D0 b || (o b).isSome) && !decide (b = ra) && !decide (b = rc), _, _, rfl, m4, rng_of m5 m6 m7, hl.trans hn, by simp, by simp, fun b hb => E1.deadV b (by simp at hb; simpa using hb.1.1), by rw [vw_borrow m2 m3]; exact V1.2 hc, h8, fun d v H' hd bt rg r => ?_, ex⟩
    obtain ⟨E2, x2⟩ := ends H' bt rg
    rw [vw_borrow m2 m3] at r
    exact kk d c S1 v H' hd E2 (x1.trans x2) ⟨r.mono vw_le_vt, fun _ => r⟩
  · refine ⟨ra, rc, vs, ds, fun b => (D0 b || mutO (o b)) && !decide (b = ra) && !decide (b = rc), _, _, rfl, m4, rng_of m5 m6 m7, hl.trans hn, by simp, by simp, fun b hb => E1.deadM b (by simp at hb; simpa using hb.1.1), by rw [vt_borrow m2 m3]; exact V1.1, h8, fun d v H' hd bt rg r => ?_, ex⟩
    obtain ⟨E2, x2⟩ := ends H' bt rg
    rw [vt_borrow m2 m3] at r
    exact kk d c S1 v H' hd E2 (x1.trans x2) ⟨r, fun z => absurd z hc⟩
theorem env_startR {D0 : Addr → Bool} {N : List Str} {us : List V} {ds : List PyData} {H : Hp} {a c : Addr} (hac : a ≠ c) (rg : RngAt H a c) (d1 : D0 a = false) (d2 : D0 c = false) (hd : ∀ b, D0 b = true → ∃ u, co H b = some u ∧ isTup u = false) (r : RpAll (vw D0 (orng a c 0 fun _ => none) (co H)) us ds) (hN : 1 ≤ N.length) :
    Env D0 (.rng a c :: startS (N.length - 1) ds) (L2.start N (.ref a :: us)) (co H) (orng a c 0 fun _ => none) := by
  obtain ⟨st, ix, ns, r1, r2, r3⟩ := rg.co
  have es : L2.start N (.ref a :: us) = some (.ref a) :: (us.map some ++ List.replicate (N.length - 1 - us.length) none) := by
    unfold L2.start
    rw [List.map_cons, List.cons_append, List.length_cons]
    have e : N.length - (us.length + 1) = N.length - 1 - us.length := by omega
    rw [e]
  refine ⟨?_, fun b p e => ?_, hd, fun i s e => ?_⟩
  · rw [es]
    unfold startS
    simp [r.length]
  · unfold orng at e
    split at e
    · rename_i hb
      rcases hb with hb | hb
      · subst hb; exact ⟨d1, _, r1, rfl⟩
      · subst hb; exact ⟨d2, _, r2, rfl⟩
    · cases e
  · rw [es]
    cases i with
    | zero =>
      cases e
      exact ⟨st, ix, ns, rfl, if_pos (.inl rfl), if_pos (.inr rfl), hac, r1, r2, r3⟩
    | succ i =>
      rw [List.getElem?_cons_succ] at e ⊢
      unfold startS at e
      by_cases hi : i < ds.length
      · rw [List.getElem?_append_left (by simpa using hi), List.getElem?_map, List.getElem?_eq_getElem hi] at e
        cases e
        obtain ⟨v, h1, h2⟩ := r.get (List.getElem?_eq_getElem hi)
        refine ⟨v, ?_, h2⟩
        rw [List.getElem?_append_left (by simpa [r.length] using hi), List.getElem?_map, h1]
        rfl
      · rw [List.getElem?_append_right (by simpa using hi), List.getElem?_replicate] at e
        split at e
        · cases e
          trivial
        · cases e
section
variable {P : Program} {w : World} {K : PySem.W.Frag} {mg : Str → Option Value} {base : Heap}
/-- THE RULE for a def whose first parameter is the source of draws -/
theorem def_okR {x : Str} {st : Stmt} {f : Addr} {fd : FuncData} {N ps : List Str} {k : Nat} {sp : Spc} (F : Fun K x x st f fd) (S : FnScope N ps (defScope st)) (hp : 1 ≤ ps.length) (hN : 1 ≤ N.length)
    (hb : ∀ (cdv : Value) (A : Around) (outer : List PySem.Env) (s : Shared) (H : Hp) (E : XK), At (cxOf (L2.CX P w) P w K mg base N x (defScope st) f cdv A outer s H E) ⟨mg, fun cls d _ H' => E cls d H'⟩ k →
      ∃ wb, SSs (cxOf (L2.CX P w) P w K mg base N x (defScope st) f cdv A outer s H E) ⟨mg, fun cls d _ H' => E cls d H'⟩ (defBody st) wb ∧
        ∀ ds A B a c, ds.length = ps.length - 1 → sp ds A B → wb (.rng a c :: startS (N.length - 1) ds) ⟨fun S => S[0]? = some (.rng a c) ∧ A .none, fun d _ S => S[0]? = some (.rng a c) ∧ A d, fun _ => False, fun _ => False, fun x S => S[0]? = some (.rng a c) ∧ B x⟩) :
    FnOk P w K mg base (L2.CX P w) (k + 1) f fd ps (spOfR mg (ps.length - 1) sp) := by
  refine F.okX S (fun vs H Q E h => by rw [spOfR_len h]; omega) (fun cdv A outer s H vs Q E hr h => ?_)
  obtain ⟨a, c, us, ds, D0, A', B', rfl, hac, rg, hl, d1, d2, hd, r, hsp, hA, hB⟩ := h
  have at_ : At (cxOf (L2.CX P w) P w K mg base N x (defScope st) f cdv A outer s H E) ⟨mg, fun cls d _ H' => E cls d H'⟩ k := ⟨hr, rfl, takes_of rfl rfl rfl rfl, rfl, S.nd, passes_of rfl⟩
  obtain ⟨wb, hp, hw⟩ := hb cdv A outer s H E at_
  obtain ⟨t, pt, st'⟩ := hp.ex
  refine ⟨t, pt, ?_⟩
  have bt : ∀ {H' : Hp} {o' : Ow}, Fr (orng a c 0 fun _ => none) H o' H' → But a c H H' := fun {H' o'} f b u n1 n2 e => (f b u (if_neg (fun z => z.elim n1 n2)) e).1
  have ends : ∀ {S' : Slots} {σ' : St} {H' : Hp} {o' : Ow}, S'[0]? = some (.rng a c) → Env D0 S' σ' (co H') o' → RngAt H' a c ∧ ∀ {v : V} {d : PyData}, Rp (vt D0 o' (co H')) v d → Rp (vw D0 (orng a c 0 fun _ => none) (co H')) v d := fun {S' σ' H' o'} hs E' => by
    obtain ⟨st1, ix1, ns1, k1, k2, k3, k4, k5, k6, k7⟩ := E'.sl 0 _ hs
    refine ⟨rng_of k5 k6 k7, fun {v d} q => q.mono fun b u e => ?_⟩
    unfold vt at e
    unfold vw orng
    split at e
    · cases e
    · rename_i hn
      have n1 : b ≠ a := fun z => hn (by rw [z, k2]; simp [mutO])
      have n2 : b ≠ c := fun z => hn (by rw [z, k3]; simp [mutO])
      have n3 : D0 b = false := by
        cases q : D0 b with
        | false => rfl
        | true => exact absurd (by rw [q, Bool.true_or]) hn
      have n4 : (if b = a ∨ b = c then some (0, true) else (none : Option (Nat × Bool))) = none := if_neg (fun z => z.elim n1 n2)
      show (if (D0 b || (if b = a ∨ b = c then some (0, true) else (none : Option (Nat × Bool))).isSome) = true then none else co H' b) = some u
      rw [n3, n4]
      exact e
  exact st' D0 _ _ H _ _ _ (env_startR hac rg d1 d2 hd r hN) (hw ds A' B' a c hl hsp)
    ⟨fun S' σ' H' o' h E' f => hA _ _ _ h.2 (bt f) (ends h.1 E').1 .non, fun _ _ _ _ h => h.elim, fun _ _ _ _ h => h.elim,
      fun d c' S' v σ' H' o' h E' f V => hA _ _ _ h.2 (bt f) (ends h.1 E').1 ((ends h.1 E').2 V.1), fun x S' σ' cls dd H' o' h E' f ok => hB x cls dd H' h.2 (bt f) (ends h.1 E').1 ok⟩
/-- law's: a list of at most 63 ints is handed in, True comes out -/
def spLaw (K : PySem.W.Frag) : Sp := fun vs H Q _ => ∃ (a : Addr) (ns : List Int), vs = [.ref a] ∧ SqL K H a (ns.map V.int) ∧ ns.length ≤ 63 ∧ ∀ H', Q (.bl true) H'
/-- THE RULE for law: h = _law_mix(script, seed), then the rest -/
theorem law_ok {st : Stmt} {f : Addr} {fd : FuncData} {N : List Str} {k i : Nat} {seed : Int} (F : Fun K "law" "law" st f fd) (S : FnScope N ["_law_script"] (defScope st)) (hi : i < N.length)
    (hb : ∀ (cdv : Value) (A : Around) (outer : List PySem.Env) (s : Shared) (H : Hp) (E : XK), At (cxOf (L2.CX P w) P w K mg base N "law" (defScope st) f cdv A outer s H E) ⟨mg, fun cls d _ H' => E cls d H'⟩ k →
      ∃ s1 rest WX wb, defBody st = s1 :: rest ∧ PS (cxOf (L2.CX P w) P w K mg base N "law" (defScope st) f cdv A outer s H E) s1 (tAsg (tCallS (spMix K) WX (tCons (tVar 0) (tCons (tC (.int seed)) tNil))) (gName i)) ∧
        SSs (cxOf (L2.CX P w) P w K mg base N "law" (defScope st) f cdv A outer s H E) ⟨mg, fun cls d _ H' => E cls d H'⟩ rest wb ∧
        ∀ a c, wb ((List.replicate N.length Slot.un).set i (.rng a c)) ⟨fun _ => False, fun d _ _ => d = .bool true, fun _ => False, fun _ => False, fun _ _ => False⟩) :
    FnOk P w K mg base (L2.CX P w) (k + 1) f fd ["_law_script"] (spLaw K) := by
  refine F.okX S (fun vs H Q E h => ?_) (fun cdv A outer s H vs Q E hr h => ?_)
  · obtain ⟨a, ns, rfl, _⟩ := h
    rfl
  · obtain ⟨a, ns, rfl, hS, hlen, q⟩ := h
    have at_ : At (cxOf (L2.CX P w) P w K mg base N "law" (defScope st) f cdv A outer s H E) ⟨mg, fun cls d _ H' => E cls d H'⟩ k := ⟨hr, rfl, takes_of rfl rfl rfl rfl, rfl, S.nd, passes_of rfl⟩
    obtain ⟨s1, rest, WX, wb, eb, p1, p2, hw⟩ := hb cdv A outer s H E at_
    obtain ⟨t, pt, st'⟩ := p2.ex
    refine ⟨_, by rw [eb]; exact pss_cons p1 pt, ?_⟩
    have hN : 0 < N.length := by omega
    have h0 : (L2.start N [.ref a])[0]? = some (some (.ref a)) := rfl
    refine ⟨.ref a, h0, a, ns, seed, rfl, hS, hlen, fun p c H' np nc hpc le rg => ?_⟩
    obtain ⟨st1, ix1, ns1, r1, r2, r3⟩ := rg.co
    have E0 : Env (fun _ => false) ((List.replicate N.length Slot.un).set i (.rng p c)) ((L2.start N [.ref a]).set i (some (.ref p))) (co H') (orng p c i fun _ => none) := by
      refine ⟨?_, fun b q e => ?_, fun b e => (by cases e), fun j s e => ?_⟩
      · unfold L2.start
        simp
        omega
      · unfold orng at e
        split at e
        · rename_i hb
          rcases hb with hb | hb
          · subst hb; exact ⟨rfl, _, r1, rfl⟩
          · subst hb; exact ⟨rfl, _, r2, rfl⟩
        · cases e
      · by_cases z : i = j
        · subst z
          rw [List.getElem?_set_self (by simpa using hi)] at e
          cases e
          refine ⟨st1, ix1, ns1, ?_, if_pos (.inl rfl), if_pos (.inr rfl), hpc, r1, r2, r3⟩
          rw [List.getElem?_set_self]
          unfold L2.start
          simp
          omega
        · rw [List.getElem?_set_ne z, List.getElem?_replicate] at e
          split at e
          · cases e
            trivial
          · cases e
    exact st' _ _ _ H' _ _ _ E0 (hw p c) ⟨fun _ _ _ _ h => h.elim, fun _ _ _ _ h => h.elim, fun _ _ _ _ h => h.elim,
      fun d c' S' v σ' H2 o' h E' f V => by
        have h' : d = .bool true := h
        subst h'
        cases V.1
        exact q H2, fun _ _ _ _ _ _ _ h => h.elim⟩
end
end
end Pu

namespace Pu
open PySem L2

/-! ### statements by their weakest reading -/
def tSW (W : WM) (w : WS) : TS := fun D σ H => ∃ (D0 : Addr → Bool) (S : Slots) (o : Ow) (P : En), Env D0 S σ (co H) o ∧ w S P ∧ Goes W D0 o H P D
theorem tSW_snd {W : WM} {w : WS} : SndS W (tSW W w) w := fun D0 S σ H o P D E hw g => ⟨D0, S, o, P, E, hw, g⟩
theorem SSs.pss {X : Cx} {W : WM} {b : List Stmt} {w : WS} (h : SSs X W b w) : PSs X b (tSW W w) := by
  obtain ⟨t, p, s⟩ := h.ex
  exact ⟨fun pins sh σ H D I ⟨D0, S, o, P, E, hw, g⟩ => p.run pins sh σ H D I (s D0 S σ H o P D E hw g)⟩

section
variable {X : Cx} {W : WM} {k : Nat} {pos : Pos}

/-! ### try -/
/-- what the clause catches, by the exceptions' names -/
structure Catch (K : PySem.W.Frag) (mg : Str → Option Value) (C : Addr) (M : Str → Option Bool) : Prop where
  ok : ∀ x b, M x = some b → ∀ A, mg x = some (.ref A) → PySem.W.exmOne K (.ref A) (.ref C) = some b
def wTry (M : Str → Option Bool) (wb ws : WS) : WS := fun S P => wb S { P with ex := fun x S1 => match M x.1 with
  | some true => ws S1 { P with ex := noX }
  | some false => P.ex x S1
  | none => False }
theorem ss_try {x : Str} {C : Addr} {M : Str → Option Bool} {body suite : List Stmt} {b₀ : Stmt} {np pos' : Pos} {wb ws : WS} (a : At X W k) (hm : X.mg x = some (.ref C)) (hM : Catch X.K X.mg C M)
    (hb : ∀ (w' : WX) (pn : List (Addr × Obj)) (xe : Value → Shared → Prop), At (X.tr pn xe) ⟨X.mg, w'⟩ k → SSs (X.tr pn xe) ⟨X.mg, w'⟩ body wb)
    (hsu : ∀ (e : Addr) (oe : Obj) (pn : List (Addr × Obj)), SSs (X.suite e ((e, oe) :: pn)) (WN X.mg) (b₀ :: suite) ws)
    (hs : X.stack = X.env :: X.outer := by rfl) (hf : X.env.frame = some X.env.locals := by rfl) (hg : Gl X x := by rfl) (hdb : (x == ("__debug__" : Str)) = false := by decide) :
    SS X W (.Try body [.ExceptHandler (some (.Name x np)) none (b₀ :: suite) pos'] [] [] pos) (wTry M wb ws) := by
  refine ⟨_, ps_try_only hs hf ⟨hg, hdb, .inl hm⟩ a.tx (fun w' pn xe tk po => (hb w' pn xe ⟨a.room, a.calm, tk, rfl, a.nd, po⟩).pss) (fun e oe cls d pn _ _ => (hsu e oe pn).pss), ?_⟩
  intro D0 S σ H o P D E hw g
  refine tSW_snd D0 S σ H o _ D E hw ⟨g.nx, g.bk, g.ct, g.rt, ?_⟩
  intro y S' σ' cls dd H' o' h E' f ok
  obtain ⟨⟨A, hA, rfl⟩, hx⟩ := ok
  cases hM' : M y.1 with
  | none =>
    have h' : (match M y.1 with | some true => ws S' { P with ex := noX } | some false => P.ex y S' | none => False) := h
    rw [hM'] at h'
    exact h'.elim
  | some b =>
    have h' : (match M y.1 with | some true => ws S' { P with ex := noX } | some false => P.ex y S' | none => False) := h
    rw [hM'] at h'
    refine ⟨b, hM.ok _ _ hM' A hA, fun e a' ha' => ?_, fun e => ?_⟩
    · subst e
      have g' := g.on f
      exact tSW_snd D0 S' σ' H' o' _ D E' h' ⟨g'.nx, g'.bk, g'.ct, g'.rt, fun _ _ _ _ _ _ _ z => z.elim⟩
    · subst e
      exact g.ex y S' σ' _ dd H' o' h' E' f ⟨⟨A, by rw [a.mq]; exact hA, rfl⟩, hx⟩
/-- scalars -/
def sV : PyData → Option V
  | .none => some .non
  | .bool b => some (.bl b)
  | .int i => some (.int i)
  | .str s => some (.str s)
  | _ => none
def dV : V → Option PyData
  | .non => some .none
  | .bl b => some (.bool b)
  | .int i => some (.int i)
  | .str s => some (.str s)
  | _ => none
theorem rp_sV {G : Hp} {v : V} {d : PyData} {u : V} (r : Rp G v d) (h : sV d = some u) : v = u := by
  cases r <;> simp [sV] at h <;> exact h
theorem rp_dV {G : Hp} {v : V} {d : PyData} (h : dV v = some d) : Rp G v d := by
  cases v <;> simp [dV] at h <;> subst h <;> constructor
/-- try: .. except x as n: return n.f -/
def wTryF (x : Str) (M : Str → Option Bool) (i : Nat) (f : Str) (wb : WS) : WS := fun S P => wb S { P with ex := fun y S1 => match M y.1 with
  | some true => y.1 = x ∧ i < S1.length ∧ ∃ v d, y.2.lookup f = some v ∧ dV v = some d ∧ P.rt d True (S1.set i .un)
  | some false => P.ex y S1
  | none => False }
theorem ss_tryF {x n f : Str} {C : Addr} {M : Str → Option Bool} {body : List Stmt} {np p1 p2 p3 pos' : Pos} {wb : WS} (i : Nat) (a : At X W k) (hm : X.mg x = some (.ref C)) (hM : Catch X.K X.mg C M) (T : XfC X.K C) (hno : PySem.W.findIn X.K (.ref C) f = some none)
    (hb : ∀ (w' : WX) (pn : List (Addr × Obj)) (xe : Value → Shared → Prop), At (X.tr pn xe) ⟨X.mg, w'⟩ k → SSs (X.tr pn xe) ⟨X.mg, w'⟩ body wb)
    (hi : X.N[i]? = some n := by rfl) (hln : X.env.kindOf n = some .local := by rfl) (hv : Vis X.env.scope n := by first | exact Or.inl rfl | exact Or.inr (Or.inl rfl) | exact Or.inr (Or.inr rfl)) (hd : (n == ("__debug__" : Str)) = false := by decide) (hcd : (n == ("__classdict__" : Str)) = false := by decide)
    (hab : attributeBase (.Name n p1) f X.env (eval (.Name n p1) X.env) = eval (.Name n p1) X.env := by rfl)
    (hs : X.stack = X.env :: X.outer := by rfl) (hf : X.env.frame = some X.env.locals := by rfl) (hg : Gl X x := by rfl) (hdb : (x == ("__debug__" : Str)) = false := by decide) :
    SS X W (.Try body [.ExceptHandler (some (.Name x np)) (some n) [.Return (some (.Attribute (.Name n p1) f p2)) p3] pos'] [] [] pos) (wTryF x M i f wb) := by
  refine ⟨_, ps_try_as (i := i) (ts := fun e cls d => tRet (tXf e cls d C f (tVar i))) hs hf a.nd hi hln ⟨hg, hdb, .inl hm⟩ a.tx (fun w' pn xe tk po => (hb w' pn xe ⟨a.room, a.calm, tk, rfl, a.nd, po⟩).pss)
    (fun e oe cls d pn hz hvs => pss_one (ps_ret (pe_xf T hno hz hvs (pe_var (X := X.suite e ((e, oe) :: pn)) hi hv hd hcd) hab))), ?_⟩
  intro D0 S σ H o P D E hw g
  refine tSW_snd D0 S σ H o _ D E hw ⟨g.nx, g.bk, g.ct, g.rt, ?_⟩
  intro y S' σ' cls dd H' o' h E' f' ok
  obtain ⟨⟨A, hA, rfl⟩, hx⟩ := ok
  have h' : (match M y.1 with | some true => y.1 = x ∧ i < S'.length ∧ ∃ v d, y.2.lookup f = some v ∧ dV v = some d ∧ P.rt d True (S'.set i .un) | some false => P.ex y S' | none => False) := h
  cases hM' : M y.1 with
  | none =>
    rw [hM'] at h'
    exact h'.elim
  | some b =>
    rw [hM'] at h'
    refine ⟨b, hM.ok _ _ hM' A hA, fun e a' ha' => ?_, fun e => ?_⟩
    · subst e
      obtain ⟨ey, hlt, v, d, hl, hd', h'⟩ := h'
      have hA' : X.mg y.1 = some (.ref A) := hA
      rw [ey, hm] at hA'
      cases hA'
      have hi' : i < σ'.length := by rw [E'.len]; exact hlt
      refine ⟨.ref a', by rw [List.getElem?_set_self hi'], rfl, rfl, ?_⟩
      rcases hx with hx | ⟨dd', ed, hx⟩
      · rw [hx] at hl; cases hl
      · refine ⟨dd', y.2, v, ed, hx, hl, ?_⟩
        exact g.rt d True _ v _ H' o' h' (E'.un i) f' (Val.of (rp_dV hd'))
    · subst e
      exact g.ex y S' σ' _ dd H' o' h' E' f' ⟨⟨A, by rw [a.mq]; exact hA, rfl⟩, hx⟩
end
end Pu

namespace Pu
open PySem L2

/-! ### raise X(e, ..), X's own __init__ storing each argument in a field -/
def spInit (C : Addr) (fs : List Str) : Sp := fun vs H Q _ => ∃ (a : Addr) (us : List V), vs = .ref a :: us ∧ us.length = fs.length ∧ H a = some (exo a C none) ∧
  ∀ dx H', H dx = none → dx ≠ a → H' a = some (exo a C (some dx)) → H' dx = some (exd dx (fs.zip us).reverse) → (∀ b, b ≠ a → b ≠ dx → H' b = H b) → Q .non H'
structure RaiseF (P : Program) (w : World) (K : PySem.W.Frag) (mg : Str → Option Value) (base : Heap) (j : Nat) (x : Str) (fs : List Str) : Prop where
  ex : ∃ (C fI : Addr) (fd : FuncData), mg x = some (.ref C) ∧ OexC K C ∧ PySem.W.findIn K (.ref C) "__init__" = some (some (.ref fI)) ∧ PySem.W.typeIn K (.ref fI) = some (.type "function") ∧
    FnOk P w K mg base (L2.CX P w) j fI fd ("self" :: fs) (spInit C fs) ∧ Binds K fd ("self" :: fs) []
def sVs : List PyData → Option (List V)
  | [] => some []
  | d :: r => match sV d, sVs r with
    | some v, some vs => some (v :: vs)
    | _, _ => none
theorem rp_sVs {G : Hp} : ∀ {vs : List V} {ds : List PyData} {us : List V}, RpAll G vs ds → sVs ds = some us → vs = us
  | _, _, _, .nil, h => by cases h; rfl
  | _, _, us, .cons (d := d) (ds := ds) a b, h => by
    unfold sVs at h
    split at h
    · rename_i v vs h1 h2
      cases h
      rw [rp_sV a h1, rp_sVs b h2]
    · cases h
def wRaiseF (x : Str) (fs : List Str) (wa : WLs) : WS := fun S P => wa S (fun ds _ S1 => ∃ us, sVs ds = some us ∧ P.ex (x, (fs.zip us).reverse) S1) P.ex
section
variable {X : Cx} {W : WM} {k : Nat} {pos : Pos}
theorem passes_no {X : Cx} : Passes (L2.CX X.prog X.w) X (fun _ _ _ => False) := fun pins σ H s e s' I c => passAt (W := fun _ _ _ _ => False) takes0 σ pins H s e s' I c
theorem ss_raiseF {j : Nat} {x : Str} {fs : List Str} {e : Expr} {es : List Expr} {p cp : Pos} {wa : WLs} (a : At X W k) (R : RaiseF X.prog X.w X.K X.mg X.base j x fs) (hj : j + 1 ≤ k) (ha : SA X W (e :: es) wa) (hn : (e :: es).length = fs.length := by rfl) (hl : fs.length ≤ 20 := by decide) (hg : Gl X x := by rfl) (hdb : (x == ("__debug__" : Str)) = false := by decide)
    (he : starEach (e :: es) X.env = (false, eval e X.env) :: starEach es X.env := by rfl) (hpl : (backTo cp (starEach es X.env)).any (·.1) = false := by rfl) : SS X W (.Raise (some (.Call (.Name x p) (e :: es) [] cp)) none pos) (wRaiseF x fs wa) := by
  obtain ⟨ta, pa, sa⟩ := ha.ex
  obtain ⟨C, fI, fd, hm, T, iC, tI, F, hb⟩ := R.ex
  refine ⟨_, ps_raise a.calm a.tx (pmk_oex T iC tI F (a.room.mono hj) hb .nil passes_no hg hm pa hdb he hpl), ?_⟩
  intro D0 S σ H o P D E hw g
  refine sa D0 S σ H o _ P.ex _ E hw (fun ds c S1 vs H1 hlen h1 E1 x1 V1 => ?_) g.xw
  obtain ⟨us, hu, h1⟩ := h1
  have ev := rp_sVs V1.1 hu
  subst ev
  have hlv : vs.length = fs.length := by rw [V1.1.length, hlen]; exact hn
  refine ⟨by omega, fun b hb => ⟨b, vs ++ [], rfl, by rw [List.append_nil]; exact hlv, upd_same, fun dx H' n1 n2 h2 h3 h4 => ⟨rfl, dx, _, h2, h3, ?_, ?_⟩⟩⟩
  · rw [upd_ne n2] at n1
    exact n1
  · rw [upd_ne n2] at n1
    have le : Le H1 (upd (del H' b) dx (.xd (fs.zip (vs ++ [])).reverse)) := fun q u e => by
      have q1 : q ≠ b := fun z => by rw [z, hb] at e; cases e
      have q2 : q ≠ dx := fun z => by rw [z, n1] at e; cases e
      rw [upd_ne q2, del_ne q1, h4 q q1 q2, upd_ne q1]
      exact e
    rw [List.append_nil] at *
    exact g.ex _ S1 σ _ _ _ o h1 (E1.xe le) (x1.trans (XE.of le)).fr ⟨⟨C, by rw [a.mq]; exact hm, rfl⟩, .inr ⟨dx, rfl, upd_same⟩⟩

/-! ### sum -/
def rSumT (K : PySem.W.Frag) : List V → Hp → VK → Prop := fun vs H Q => ∃ (a : Addr) (ns : List Int), vs = [V.ref a] ∧ SqT K H a (ns.map V.int) ∧ Q (.int ns.sum) H
theorem cr_sumT (hc : X.calm = true) : CallR X (.builtin "sum") (rSumT X.K) := by
  intro pins s σ H vs us Q I r h
  obtain ⟨a, ns, rfl, hs, q⟩ := h
  obtain ⟨its, rv, hl, _⟩ := I.tuple hs
  rw [Vals.ref1 r]
  have hi := rv.ints
  obtain ⟨xs, e⟩ := hi.allInts.items
  have hn : numsOf (intItems xs).toList = ns := by rw [← e]; exact hi.numsOf
  rw [nums_intItems] at hn
  rw [e] at hl
  refine PySem.W.ktm_sumG (I.ok.hd hc) hl fun h' tk t' hk => ?_
  rw [preSum_eq, List.take_of_length_le (by simp), hn]
  exact ⟨.int _, H, I.kept hk, ⟨_, rfl⟩, q⟩
def gSum : RD := fun ds _ K => match ds with
  | [.list xs] => ∃ ns, ints? xs = some ns ∧ K (.int ns.sum) True
  | [.tuple xs] => ∃ ns, ints? xs = some ns ∧ K (.int ns.sum) True
  | _ => False
theorem f_sum (a : At X W k) : Fn X (.builtin "sum") gSum := by
  refine ⟨_, CallR.or (cr_sum a.calm) (cr_sumT a.calm), ?_⟩
  intro D0 S σ o H vs ds c K Q E V hg k
  unfold gSum at hg
  split at hg
  · obtain ⟨v, rfl, U⟩ := vals1 V
    obtain ⟨a, ws, rfl, e, r, rc⟩ := U.items E
    obtain ⟨ns, hi, hg⟩ := hg
    rw [ints?_of hi] at r
    rw [r.ints] at e
    exact .inl ⟨a, ns, rfl, SqL.at e, k _ _ _ H hg (Le.refl H) (Val.of (.int _))⟩
  · obtain ⟨v, rfl, U⟩ := vals1 V
    obtain ⟨a, ws, rfl, e, r, rc⟩ := U.titems E
    obtain ⟨ns, hi, hg⟩ := hg
    rw [ints?_of hi] at r
    rw [r.ints] at e
    exact .inr ⟨a, ns, rfl, SqT.at e, k _ _ _ H hg (Le.refl H) (Val.of (.int _))⟩
  · exact hg.elim

/-! ### a, b = x, y, some of them new lists that become the frame's own -/
inductive Mi where
  | v (d : PyData)
  | l (ds : List PyData)
def slotM : Mi → Slot
  | .v d => .im d
  | .l ds => .ol ds
def MiOk (D0 : Addr → Bool) (o : Ow) (H : Hp) (j : Nat) (x : V) : Mi → Prop
  | .v d => Rp (vw D0 o (co H)) x d
  | .l ds => ∃ p us, x = .ref p ∧ o p = some (j, false) ∧ H p = some (.lst us) ∧ RpAll (vw D0 o (co H)) us ds
inductive MisOk (D0 : Addr → Bool) (o : Ow) (H : Hp) : List Nat → List V → List Mi → Prop
  | nil : MisOk D0 o H [] [] []
  | cons {j : Nat} {js : List Nat} {x : V} {xs : List V} {m : Mi} {ms : List Mi} : MiOk D0 o H j x m → MisOk D0 o H js xs ms → MisOk D0 o H (j :: js) (x :: xs) (m :: ms)
def FrM (o : Ow) (H : Hp) (o' : Ow) (H' : Hp) : Prop := ∀ a u, mutO (o a) = false → H a = some u → H' a = some u ∧ o' a = o a
theorem FrM.fr {o o' : Ow} {H H' : Hp} (h : FrM o H o' H') : Fr o H o' H' := fun a u n e => by
  obtain ⟨h1, h2⟩ := h a u (by rw [n]; rfl) e
  exact ⟨h1, h2.trans n⟩
theorem FrM.trans {o o1 o2 : Ow} {H H1 H2 : Hp} (a : FrM o H o1 H1) (b : FrM o1 H1 o2 H2) : FrM o H o2 H2 := fun x u m e => by
  obtain ⟨h1, h2⟩ := a x u m e
  obtain ⟨h3, h4⟩ := b x u (by rw [h2]; exact m) h1
  exact ⟨h3, h4.trans h2⟩
theorem XE.frM {o : Ow} {H H' : Hp} (h : XE o H H') : FrM o H o H' := fun a u m e => ⟨h a u m e, rfl⟩
theorem FrM.refl (o : Ow) (H : Hp) : FrM o H o H := fun _ _ _ e => ⟨e, rfl⟩
theorem frM_own {H : Hp} {o : Ow} {p : Addr} {i : Nat} {u : HO} (h : H p = none) : FrM o H (ow1 o p i) (upd H p u) := fun a x n e => by
  have ne := ne_of_none e h
  exact ⟨by rw [upd_ne ne]; exact e, if_neg ne⟩
theorem MiOk.on {D0 : Addr → Bool} {o o' : Ow} {H H' : Hp} {j : Nat} {x : V} {m : Mi} (f : FrM o H o' H') (h : MiOk D0 o H j x m) : MiOk D0 o' H' j x m := by
  cases m with
  | v d => exact h.mono f.fr.vw
  | l ds =>
    obtain ⟨p, us, h1, h2, h3, h4⟩ := h
    obtain ⟨h5, h6⟩ := f p _ (by rw [h2]; rfl) h3
    exact ⟨p, us, h1, h6.trans h2, h5, h4.mono f.fr.vw⟩
/-- the way out by an exception, of a statement -/
def XwF (W : WM) (D0 : Addr → Bool) (o : Ow) (H : Hp) (B : EK) : Prop := ∀ x S' σ' cls dd H' o', B x S' → Env D0 S' σ' (co H') o' → Fr o H o' H' → XOk W.mg H' x cls dd → W.w cls dd σ' H'
theorem XwF.xw {D0 : Addr → Bool} {σ : St} {o : Ow} {H : Hp} {B : EK} (h : XwF W D0 o H B) : Xw W D0 σ o H B := fun x S' cls dd H' hb E q ok => h x S' σ cls dd H' o hb E q.fr ok
theorem XwF.on {D0 : Addr → Bool} {o o1 : Ow} {H H1 : Hp} {B : EK} (h : XwF W D0 o H B) (f : Fr o H o1 H1) : XwF W D0 o1 H1 B := fun x S' σ' cls dd H' o' hb E q ok => h x S' σ' cls dd H' o' hb E (f.trans q) ok
abbrev WMi := Slots → (List Mi → Slots → Prop) → EK → Prop
def SndM (W : WM) (t : TA) (js : List Nat) (w : WMi) : Prop := ∀ (D0 : Addr → Bool) (S : Slots) (σ : St) (H : Hp) (o : Ow) (A : List Mi → Slots → Prop) (B : EK) (Q : List V → Hp → Prop), Env D0 S σ (co H) o → w S A B →
  (∀ ms S' vs H' o', A ms S' → Env D0 S' σ (co H') o' → FrM o H o' H' → MisOk D0 o' H' js vs ms → Q vs H') → XwF W D0 o H B → t σ H Q
structure SM (X : Cx) (W : WM) (es : List Expr) (js : List Nat) (w : WMi) : Prop where
  ex : ∃ t, PA X es t ∧ SndM W t js w
def wMNil : WMi := fun S A _ => A [] S
def wMV (we : WEx) (wr : WMi) : WMi := fun S A B => we S (fun d c S1 => (c ∨ flat d = true) ∧ wr S1 (fun ms S2 => A (.v d :: ms) S2) B) B
def wMO (wo : WLs) (wr : WMi) : WMi := fun S A B => wo S (fun ds c S1 => (c ∨ flats ds = true) ∧ wr S1 (fun ms S2 => A (.l ds :: ms) S2) B) B
theorem sm_nil : SM X W [] [] wMNil := ⟨_, pa_nil, fun D0 S σ H o A B Q E hw k kx => k _ _ _ _ o hw E (FrM.refl _ _) .nil⟩
theorem sm_v (j : Nat) {e : Expr} {es : List Expr} {js : List Nat} {we : WEx} {wr : WMi} (he : SE X W e we) (hr : SM X W es js wr) (hst : starEach (e :: es) X.env = (false, eval e X.env) :: starEach es X.env := by rfl) : SM X W (e :: es) (j :: js) (wMV we wr) := by
  obtain ⟨te, pe, se⟩ := he.ex
  obtain ⟨tr, pr, sr⟩ := hr.ex
  refine ⟨_, pa_cons pe pr hst, ?_⟩
  intro D0 S σ H o A B Q E hw k kx
  refine se D0 S σ H o _ B _ E hw (fun d c S1 v H1 h1 E1 x1 V1 => ?_) kx.xw
  refine sr D0 S1 σ H1 o _ B _ E1 h1.2 (fun ms S2 vs H2 o2 h2 E2 f2 M2 => ?_) (kx.on x1.fr)
  exact k _ S2 _ H2 o2 h2 E2 (x1.frM.trans f2) (.cons (MiOk.on (m := .v d) f2 ((V1.flat E1).2 h1.1)) M2)
theorem sm_o (j : Nat) {e : Expr} {es : List Expr} {js : List Nat} {wo : WLs} {wr : WMi} (he : SO X W e wo) (hr : SM X W es js wr) (hst : starEach (e :: es) X.env = (false, eval e X.env) :: starEach es X.env := by rfl) : SM X W (e :: es) (j :: js) (wMO wo wr) := by
  obtain ⟨te, pe, se⟩ := he.ex
  obtain ⟨tr, pr, sr⟩ := hr.ex
  refine ⟨_, pa_cons pe pr hst, ?_⟩
  intro D0 S σ H o A B Q E hw k kx
  refine se D0 S σ H o _ B _ E hw (fun ds c S1 vs p H1 h1 E1 x1 hp V1 => ?_) kx.xw
  have r := V1.clean E1 h1.1
  have f1 : FrM o H (ow1 o p j) (upd H1 p (.lst vs)) := x1.frM.trans (frM_own hp)
  have E2 : Env D0 S1 σ (co (upd H1 p (.lst vs))) (ow1 o p j) := by
    have nw := E1.new hp
    have le : Le (co H1) (co (upd H1 p (.lst vs))) := (Le.new hp).co
    have oe : ∀ {a : Addr}, a ≠ p → ow1 o p j a = o a := fun {a} n => if_neg n
    have ne : ∀ {a : Addr} {q : Nat × Bool}, o a = some q → a ≠ p := fun {a q} e z => by rw [z, nw.2] at e; cases e
    refine ⟨E1.len, fun a q e => ?_, fun a e => ?_, fun i s e => ?_⟩
    · by_cases z : a = p
      · subst z
        exact ⟨nw.1, _, co_of upd_same, rfl⟩
      · rw [oe z] at e
        obtain ⟨h1, u, h2, h3⟩ := E1.live a q e
        exact ⟨h1, u, le _ _ h2, h3⟩
    · obtain ⟨u, h2, h3⟩ := E1.dead a e
      exact ⟨u, le _ _ h2, h3⟩
    · have q := E1.sl i s e
      cases s with
      | un => trivial
      | im d => obtain ⟨v, h1, h2⟩ := q; exact ⟨v, h1, by rw [vw_ow hp]; exact h2⟩
      | ol xs => obtain ⟨a, ws, h1, h2, h3, h4⟩ := q; exact ⟨a, ws, h1, by rw [oe (ne h2)]; exact h2, le _ _ h3, by rw [vw_ow hp]; exact h4⟩
      | od es =>
        obtain ⟨a, h1, h2, h3⟩ := q
        refine ⟨a, h1, by rw [oe (ne h2)]; exact h2, ?_⟩
        rw [vw_ow hp]
        rcases h3 with ⟨kvs, h3, h4⟩ | ⟨kvs, h3, h4⟩
        · exact .inl ⟨kvs, le _ _ h3, h4⟩
        · exact .inr ⟨kvs, le _ _ h3, h4⟩
      | rng a c => obtain ⟨st, ix, ns, h1, h2, h3, h4, h5, h6, h7⟩ := q; exact ⟨st, ix, ns, h1, by rw [oe (ne h2)]; exact h2, by rw [oe (ne h3)]; exact h3, h4, le _ _ h5, le _ _ h6, h7⟩
  refine sr D0 S1 σ _ _ _ B _ E2 h1.2 (fun ms S2 us H2 o2 h2 E3 f2 M2 => ?_) (kx.on f1.fr)
  exact k _ S2 _ H2 o2 h2 E3 (f1.trans f2) (.cons (MiOk.on (m := .l ds) f2 ⟨p, vs, rfl, if_pos rfl, upd_same, by rw [vw_ow hp]; exact r⟩) M2)
theorem Env.putM {D0 : Addr → Bool} {S : Slots} {σ : St} {H : Hp} {o : Ow} {v : V} {m : Mi} (E : Env D0 S σ (co H) o) (i : Nat) (h : MiOk D0 o H i v m) : Env D0 (S.set i (slotM m)) (σ.set i (some v)) (co H) o := by
  cases m with
  | v d => exact E.put i h
  | l ds =>
    obtain ⟨p, us, h1, h2, h3, h4⟩ := h
    refine ⟨by rw [List.length_set, List.length_set]; exact E.len, E.live, E.dead, fun j s e => ?_⟩
    by_cases z : i = j
    · subst z
      have hi : i < S.length := by
        have q := (List.getElem?_eq_some_iff.mp e).1
        rw [List.length_set] at q
        exact q
      rw [List.getElem?_set_self hi] at e
      cases e
      exact ⟨p, us, by rw [List.getElem?_set_self (by rw [E.len]; exact hi), h1], h2, co_of h3, h4⟩
    · rw [List.getElem?_set_ne z] at e ⊢
      exact E.sl j s e
def puts : List Nat → List Mi → Slots → Slots
  | i :: is, m :: ms, S => puts is ms (S.set i (slotM m))
  | _, _, S => S
def wMix (is : List Nat) (wm : WMi) : WS := fun S P => wm S (fun ms S1 => P.nx (puts is ms S1)) P.ex
theorem Goes.xwF {D0 : Addr → Bool} {o : Ow} {H : Hp} {P : En} {D : Ends} (g : Goes W D0 o H P D) : XwF W D0 o H P.ex := g.ex
theorem ss_mix2 (i j : Nat) {x y : Str} {e1 e2 : Expr} {px py pt : Pos} {kt k2 pt2} {wm : WMi} (a : At X W k) (hm : SM X W [e1, e2] [i, j] wm) (hi : X.N[i]? = some x := by rfl) (hj : X.N[j]? = some y := by rfl) (hij : i ≠ j := by decide)
    (hx : X.env.scope.names.lookup x = some .local := by rfl) (hy : X.env.scope.names.lookup y = some .local := by rfl)
    (hw : swappedStores [.Tuple [.Name x px, .Name y py] kt pt] (.Tuple [e1, e2] k2 pt2) X.env = pure (some [x, y]) := by rfl)
    (hs : swapsWithSole [.Tuple [.Name x px, .Name y py] kt pt] (.Tuple [e1, e2] k2 pt2) pos.line X.env = pure false := by rfl) :
    SS X W (.Assign [.Tuple [.Name x px, .Name y py] kt pt] (.Tuple [e1, e2] k2 pt2) pos) (wMix [i, j] wm) := by
  obtain ⟨ta, pa, sa⟩ := hm.ex
  refine ⟨_, ps_par a.calm a.nd hi hj hij hx hy pa hw hs, ?_⟩
  intro D0 S σ H o P D E hw g
  refine sa D0 S σ H o _ P.ex _ E hw (fun ms S1 vs H1 o1 h1 E1 f1 M => ?_) g.xwF
  cases M with
  | cons m1 M =>
    cases M with
    | cons m2 M =>
      cases M
      exact ⟨_, _, rfl, g.nx _ _ _ o1 h1 ((E1.putM i m1).putM j m2) f1.fr⟩
theorem ss_mix3 (i j l : Nat) {x y z : Str} {e1 e2 e3 : Expr} {px py pz pt : Pos} {kt k2 pt2} {wm : WMi} (a : At X W k) (hm : SM X W [e1, e2, e3] [i, j, l] wm) (hi : X.N[i]? = some x := by rfl) (hj : X.N[j]? = some y := by rfl) (hl : X.N[l]? = some z := by rfl) (hij : i ≠ j := by decide) (hil : i ≠ l := by decide) (hjl : j ≠ l := by decide)
    (hx : X.env.scope.names.lookup x = some .local := by rfl) (hy : X.env.scope.names.lookup y = some .local := by rfl) (hz : X.env.scope.names.lookup z = some .local := by rfl)
    (hw : swappedStores [.Tuple [.Name x px, .Name y py, .Name z pz] kt pt] (.Tuple [e1, e2, e3] k2 pt2) X.env = pure (some [x, y, z]) := by rfl)
    (hs : swapsWithSole [.Tuple [.Name x px, .Name y py, .Name z pz] kt pt] (.Tuple [e1, e2, e3] k2 pt2) pos.line X.env = pure false := by rfl) :
    SS X W (.Assign [.Tuple [.Name x px, .Name y py, .Name z pz] kt pt] (.Tuple [e1, e2, e3] k2 pt2) pos) (wMix [i, j, l] wm) := by
  obtain ⟨ta, pa, sa⟩ := hm.ex
  refine ⟨_, ps_par3 a.calm a.nd hi hj hl hij hil hjl hx hy hz pa hw hs, ?_⟩
  intro D0 S σ H o P D E hw g
  refine sa D0 S σ H o _ P.ex _ E hw (fun ms S1 vs H1 o1 h1 E1 f1 M => ?_) g.xwF
  cases M with
  | cons m1 M =>
    cases M with
    | cons m2 M =>
      cases M with
      | cons m3 M =>
        cases M
        exact ⟨_, _, _, rfl, g.nx _ _ _ o1 h1 (((E1.putM i m1).putM j m2).putM l m3) f1.fr⟩

/-! ### name = [.. for ..] -/
theorem ss_setLcO (i : Nat) {y : Str} {py : Pos} {elt tg iter : Expr} {ifs : List Expr} {scope : Scope} {own : List (Str × Nat)} {spos : Pos} {L : List Nat} {wi : WLs} {wg : WTg} {wt : WTx} {we : WEx} (a : At X W k) (hi : SI X W tg iter wi) (ok : blkC X.N X.env.scope scope own = true)
    (hg : ∀ (s : Shared) (H : Hp) (C : Addr) (cl : List (Str × Addr)) (fp : List Addr), SG (X.blk s H scope (compEnvC scope cl C X.env) fp) tg L wg)
    (ht : ∀ (s : Shared) (H : Hp) (C : Addr) (cl : List (Str × Addr)) (fp : List Addr), At (X.blk s H scope (compEnvC scope cl C X.env) fp) (WN X.mg) k → STs (X.blk s H scope (compEnvC scope cl C X.env) fp) (WN X.mg) ifs wt)
    (he : ∀ (s : Shared) (H : Hp) (C : Addr) (cl : List (Str × Addr)) (fp : List Addr), At (X.blk s H scope (compEnvC scope cl C X.env) fp) (WN X.mg) k → SE (X.blk s H scope (compEnvC scope cl C X.env) fp) (WN X.mg) elt we)
    (hL : ∀ j ∈ L, j ∈ own.map (·.2)) (hy : X.N[i]? = some y := by rfl) (hyl : X.env.scope.names.lookup y = some .local := by rfl) (hk : X.env.scope.kind = .function := by rfl) (hln : (py.line == pos.line) = true := by rfl) (ha : (scope.names.any fun (n, k) => n == y && (k == .local || k == .cell)) = false := by decide)
    (hs : ∀ x, foldedSetIterable iter X.env x = pure x := by intro _; rfl) : SS X W (.Assign [.Name y py] (.ListComp elt [⟨tg, iter, ifs, 0⟩] scope pos) spos) (wOwn i (wLc wi wg wt we (own.map (·.2)))) := by
  obtain ⟨twi, pwi, swi⟩ := hi.ex
  refine ⟨_, ps_setLc a.calm a.nd hy hyl (sw_true hk hyl hln ha) pwi (blkOk_by ok) (fun s H C cl fp => (hg s H C cl fp).pg) (fun s H C cl fp => (ht s H C cl fp (a.blk ..)).pt) (fun s H C cl fp => (he s H C cl fp (a.blk ..)).pe) hs, ?_⟩
  intro D0 S σ H o P D E hw g
  refine snd_lc swi hL D0 S σ H o _ P.ex _ E hw (fun ds c S1 vs q H1 h1 E1 x1 hq V1 => ?_) g.xw
  exact g.nx _ _ _ _ h1.2 (E1.own i hq (V1.clean E1 h1.1)) (x1.fr.trans (fr_own (D0 := D0) (S := S1) (σ := σ) hq))
theorem snd_o {t : TE} {wo : WLs} (so : SndO W t wo) : Snd W t (wO wo) := by
  intro D0 S σ H o A B Q E hw k kx
  refine so D0 S σ H o _ B _ E hw (fun ds c S1 vs p H1 h1 E1 x1 hp V1 => ?_) kx
  exact k _ _ S1 _ _ h1 (E1.xe (Le.new hp)) (x1.trans (XE.of (Le.new hp))) (Val.newL E1 hp V1)
theorem ss_setLc (i : Nat) {y : Str} {py : Pos} {elt tg iter : Expr} {ifs : List Expr} {scope : Scope} {own : List (Str × Nat)} {spos : Pos} {L : List Nat} {wi : WLs} {wg : WTg} {wt : WTx} {we : WEx} (a : At X W k) (hi : SI X W tg iter wi) (ok : blkC X.N X.env.scope scope own = true)
    (hg : ∀ (s : Shared) (H : Hp) (C : Addr) (cl : List (Str × Addr)) (fp : List Addr), SG (X.blk s H scope (compEnvC scope cl C X.env) fp) tg L wg)
    (ht : ∀ (s : Shared) (H : Hp) (C : Addr) (cl : List (Str × Addr)) (fp : List Addr), At (X.blk s H scope (compEnvC scope cl C X.env) fp) (WN X.mg) k → STs (X.blk s H scope (compEnvC scope cl C X.env) fp) (WN X.mg) ifs wt)
    (he : ∀ (s : Shared) (H : Hp) (C : Addr) (cl : List (Str × Addr)) (fp : List Addr), At (X.blk s H scope (compEnvC scope cl C X.env) fp) (WN X.mg) k → SE (X.blk s H scope (compEnvC scope cl C X.env) fp) (WN X.mg) elt we)
    (hL : ∀ j ∈ L, j ∈ own.map (·.2)) (hy : X.N[i]? = some y := by rfl) (hyl : X.env.scope.names.lookup y = some .local := by rfl) (hk : X.env.scope.kind = .function := by rfl) (hln : (py.line == pos.line) = true := by rfl) (ha : (scope.names.any fun (n, k) => n == y && (k == .local || k == .cell)) = false := by decide)
    (hs : ∀ x, foldedSetIterable iter X.env x = pure x := by intro _; rfl) : SS X W (.Assign [.Name y py] (.ListComp elt [⟨tg, iter, ifs, 0⟩] scope pos) spos) (wSet i (wO (wLc wi wg wt we (own.map (·.2))))) := by
  obtain ⟨twi, pwi, swi⟩ := hi.ex
  refine ⟨_, ps_setLc a.calm a.nd hy hyl (sw_true hk hyl hln ha) pwi (blkOk_by ok) (fun s H C cl fp => (hg s H C cl fp).pg) (fun s H C cl fp => (ht s H C cl fp (a.blk ..)).pt) (fun s H C cl fp => (he s H C cl fp (a.blk ..)).pe) hs, ?_⟩
  intro D0 S σ H o P D E hw g
  refine snd_o (snd_lc swi hL) D0 S σ H o _ P.ex _ E hw (fun d c S1 v H1 h1 E1 x1 V1 => ?_) g.xw
  exact g.nx _ _ _ _ h1.2 (E1.put i ((V1.flat E1).2 h1.1)) x1.fr

/-! ### a comparison as a test -/
theorem st_cmp {op : CmpOp} {g : R2D} {a b : Expr} {wa wb : WEx} (ho : Op2 X (compareOp op) g) (ha : SE X W a wa) (hb : SE X W b wb) (hm : behindInMarks op b = false := by first | exact nobehind _ (by decide) (by decide) | rfl) : ST X W (.Compare a [op] [b] pos) (wB (wOp g wa wb)) := by
  obtain ⟨ta, pa, sa⟩ := ha.ex
  obtain ⟨tb, pb, sb⟩ := hb.ex
  obtain ⟨r, hr, h⟩ := ho.ex
  refine ⟨_, pt_cmpR hr pa pb hm, ?_⟩
  intro D0 S σ H o A B Q E hw k kx
  refine snd_op sa sb h D0 S σ H o _ B _ E hw (fun d c S1 v H1 h1 E1 x1 V1 => ?_) kx
  obtain ⟨b, rfl, h'⟩ := bl_rp V1.1 h1
  exact ⟨b, rfl, k b S1 H1 h' E1 x1⟩
end
end Pu

namespace Pu
open PySem L2
theorem bt_int : bootBuiltins "int" = some (.type "int") := by decide +kernel
theorem bt_bool : bootBuiltins "bool" = some (.type "bool") := by decide +kernel
theorem bt_list : bootBuiltins "list" = some (.type "list") := by decide +kernel
theorem bt_tuple : bootBuiltins "tuple" = some (.type "tuple") := by decide +kernel
theorem bt_str : bootBuiltins "str" = some (.type "str") := by decide +kernel
theorem bt_dict : bootBuiltins "dict" = some (.type "dict") := by decide +kernel
theorem bb_len : bootBuiltins "len" = some (.builtin "len") := by decide +kernel
theorem bb_max : bootBuiltins "max" = some (.builtin "max") := by decide +kernel
theorem bb_min : bootBuiltins "min" = some (.builtin "min") := by decide +kernel
theorem bb_sum : bootBuiltins "sum" = some (.builtin "sum") := by decide +kernel
theorem bb_sorted : bootBuiltins "sorted" = some (.builtin "sorted") := by decide +kernel
section
variable {X : Cx} {W : WM} {k : Nat} {pos : Pos}
/-- h = _law_mix(_law_script, seed) -/
theorem ps_mix {j : Nat} {seed : Int} (i : Nat) {h : Str} {p q r u cp : Pos} {z} (a : At X W k) (F : Def X.prog X.w X.K X.mg X.base j "_law_mix" 2 (spMix X.K)) (hj : j ≤ k) (hN : X.N[0]? = some ("_law_script" : Str) := by rfl) (hv : Vis X.env.scope "_law_script" := by first | exact Or.inl rfl | exact Or.inr (Or.inl rfl) | exact Or.inr (Or.inr rfl))
    (hi : X.N[i]? = some h := by rfl) (hx : Loc X.env.scope h := by first | exact Or.inl rfl | exact Or.inr rfl) (hf : X.fn h = true ∨ X.env.scope.names.lookup h = some .local := by first | exact .inl rfl | exact .inr rfl) (hg : Gl X "_law_mix" := by rfl)
    (hst : starEach [.Name "_law_script" r, .Constant (.int seed) z u] X.env = (false, eval (.Name "_law_script" r) X.env) :: starEach [.Constant (.int seed) z u] X.env := by rfl) (hst2 : starEach [.Constant (.int seed) z u] X.env = (false, eval (.Constant (.int seed) z u) X.env) :: starEach [] X.env := by rfl)
    (hpl : (backTo cp (starEach [.Constant (.int seed) z u] X.env)).any (·.1) = false := by rfl) (hs : swapsWith (.Call (.Name "_law_mix" q) [.Name "_law_script" r, .Constant (.int seed) z u] [] cp) (some (.Name h p)) pos.line X.env = pure false := by rfl) :
    PS X (.Assign [.Name h p] (.Call (.Name "_law_mix" q) [.Name "_law_script" r, .Constant (.int seed) z u] [] cp) pos) (tAsg (tCallS (spMix X.K) (WE W.w) (tCons (tVar 0) (tCons (tC (.int seed)) tNil))) (gName i)) := by
  obtain ⟨f, fd, ps, G, hm, hk, hb, hps⟩ := F.ex
  exact ps_set a.nd hi hx (pe_callS G (a.room.mono hj) hg hm hk hb a.tk (pa_cons (pe_var hN hv) (pa_cons pe_int pa_nil hst2) hst) (by decide) hst hpl) hs hf

/-! ### a, b, .. = x, y, .. by a tuple -/
def gNs : List Nat → TGs
  | [] => gNil
  | i :: is => gCons (gName i) (gNs is)
theorem gNs_ok {D0 : Addr → Bool} {o : Ow} {H : Hp} {K : Slots → Prop} {Q : St → Hp → Prop} : ∀ {js : List Nat} {vs : List V} {ms : List Mi} {S : Slots} {σ : St}, MisOk D0 o H js vs ms → Env D0 S σ (co H) o → K (puts js ms S) → (∀ S' σ', K S' → Env D0 S' σ' (co H) o → Q σ' H) → gNs js vs σ H Q
  | _, _, _, S, σ, .nil, E, hK, k => ⟨rfl, k S σ hK E⟩
  | _, _, _, S, σ, .cons (j := j) (x := x) a b, E, hK, k => ⟨_, _, rfl, gNs_ok b (E.putM j a) hK k⟩
theorem ss_mixT {n kt : Nat} {is : List Nat} {tgs es : List Expr} {pt pt2 : Pos} {k2} {wm : WMi} (a : At X W k) (hm : SM X W es is wm) (hp : PGs X tgs (gNs is)) (hlen : is.length = n := by rfl) (hle : n ≤ 20 := by decide) (hn : (assignEach tgs X.env).length = n := by rfl) (hst : (assignEach tgs X.env).findIdx? (·.1) = none := by rfl)
    (hs : swapsWithSole [.Tuple tgs kt pt] (.Tuple es k2 pt2) pos.line X.env = pure false := by rfl) (hw : swappedStores [.Tuple tgs kt pt] (.Tuple es k2 pt2) X.env = pure none := by rfl)
    (h1 : (assignEach [.Tuple tgs kt pt] X.env).map (·.2) = [assign (.Tuple tgs kt pt) X.env] := by rfl) : SS X W (.Assign [.Tuple tgs kt pt] (.Tuple es k2 pt2) pos) (wMix is wm) := by
  obtain ⟨ta, pa, sa⟩ := hm.ex
  refine ⟨_, ps_asg (pe_tup pa) (pg_tup a.calm hp hn hst) hs hw h1, ?_⟩
  intro D0 S σ H o P D E hw g
  refine sa D0 S σ H o _ P.ex _ E hw (fun ms S1 vs H1 o1 h1 E1 f1 M => ?_) g.xwF
  have hl : ∀ {js : List Nat} {vs : List V} {ms : List Mi}, MisOk D0 o1 H1 js vs ms → vs.length = js.length := fun {js vs ms} m => by
    induction m with
    | nil => rfl
    | cons _ _ ih => rw [List.length_cons, List.length_cons, ih]
  have hv : vs.length = n := (hl M).trans hlen
  refine ⟨by rw [hv, sizeLine_eq]; omega, fun p hp => ?_⟩
  have x2 := XE.of (o := o1) (Le.new (u := .tup vs) hp)
  have E2 := E1.xe (Le.new (u := .tup vs) hp)
  have on : ∀ {js : List Nat} {vs' : List V} {ms : List Mi}, MisOk D0 o1 H1 js vs' ms → MisOk D0 o1 (upd H1 p (.tup vs)) js vs' ms := fun {js vs' ms} m => by
    induction m with
    | nil => exact .nil
    | cons a _ ih => exact .cons (a.on x2.frM) ih
  refine ⟨p, vs, rfl, SqT.at upd_same, hv, gNs_ok (on M) E2 h1 fun S' σ' hk E' => ?_⟩
  exact g.nx _ _ _ o1 hk E' (f1.fr.trans x2.fr)
end
theorem loose_int {lv : List (Str × PySem.W.WData)} {mg : Str → Option Value} {g : Heap} {x : Str} {i : Int} (L : PySem.W.LooseAre lv mg g) (h : (x, PySem.W.WData.int i) ∈ lv) : ∃ t, mg x = some (.int i t) := by
  obtain ⟨v, hv, r⟩ := L.val _ h
  cases r
  exact ⟨_, hv⟩
/-- law's walk: what the row asks, from the def's own promise -/
theorem law_walk {l : PySem.W.OpenLaw} {q qv : Program} {loose : List Str} {lv : List (Str × PySem.W.WData)} {YP : World → Heap → Prop} {d : DefRec} {FK : PySem.Params → PySem.W.Frag} {k : Nat} (m : l.most = some 63) (df : d.params.defaults = []) (rm : Room k callerA)
    (ki : ∀ w g, YP w g → (FK w.params).In g)
    (F : ∀ (w : World) (mg : Str → Option Value) (fa : Addr) (g : Heap), (FK w.params).In g → g.Ns mainGlobals mg → PySem.W.LooseAre lv mg g → mg d.name = some (.ref fa) →
      ∃ fd : FuncData, (∀ (s : Shared) (v : Value), BindsTo s fd ⟨[v], []⟩ [("_law_script", v)]) ∧ ∀ base : Heap, (FK w.params).In base → base.Ns mainGlobals mg → FnOk l.prog w (FK w.params) mg base (L2.CX l.prog w) k fa fd ["_law_script"] (spLaw (FK w.params))) :
    PySem.W.WalkO q loose (PySem.W.XL qv lv) YP l.row.toRowW d [] (fun f vs => PySem.call f vs) := by
  refine Att.attach_call m df fun w s0 s1 mg mb fa ob pm cd doc a vs ns G Y ho hd hcd hmg hobj hints hlen hg => ?_
  obtain ⟨fd, hb, hF⟩ := F w mg fa _ (ki w _ Y) G.T.g G.X.2 hmg
  exact law_call (ki w _ Y) G.T.g G.T.b G.T.builtins G.T.nolimit hg hobj hints (by rw [sizeLine_eq]; omega) rm hF hb (fun H _ hS => ⟨a, ns, rfl, hS, hlen, fun _ => rfl⟩) fun H e s' z => by
    obtain ⟨_, _, _, _, _, _, _, _, _, _, _, _, z⟩ := z
    exact z
end Pu

namespace Pu
open PySem L2
section
variable {X : Cx} {W : WM} {k : Nat} {pos : Pos}
/-! ### xs.index(y): the first place of an equal one -/
def wIdx (wl we : WEx) : WEx := fun S A B => wl S (fun d _ S1 => match d with
  | .list xs => we S1 (fun y _ S2 => SeqAt.shaped (.list xs) = true ∧ SeqAt.shaped y = true ∧ ∃ (j : Nat) (z : PyData), xs[j]? = some z ∧ PyData.eqv z y = true ∧ (∀ (m : Nat) (z' : PyData), m < j → xs[m]? = some z' → PyData.eqv z' y = false) ∧ A (.int (j : Nat)) True S2) B
  | _ => False) B
theorem se_idx {o e : Expr} {ap cp : Pos} {wl we : WEx} (a : At X W k) (ho : SE X W o wl) (he : SE X W e we)
    (hb : attributeBase o "index" X.env (eval o X.env) = eval o X.env := by rfl)
    (hfew : ((backTo cp (starEach [e] X.env)).all (fun x => !x.1) && (backToKw cp (keywordEach [] X.env)).all (fun x => x.1.isSome) && decide ([e].length + ([] : List Keyword).length + (if ([] : List Keyword).isEmpty then 0 else 1) < 30)) = true := by rfl)
    (hl : (ap.endLine == cp.line) = true := by rfl) (hst : starEach [e] X.env = (false, eval e X.env) :: starEach [] X.env := by rfl) (hpl : (backTo cp (starEach [] X.env)).any (·.1) = false := by rfl) :
    SE X W (.Call (.Attribute o "index" ap) [e] [] cp) (wIdx wl we) := by
  obtain ⟨to, po, so⟩ := ho.ex
  obtain ⟨te, pe, se⟩ := he.ex
  refine ⟨_, pe_bm PySem.F.plainAttrs_list PySem.F.slot_list_index PySem.F.type_list_index (mt_indexD a.u65) po (pa_cons pe pa_nil hst) hb hfew hl hst hpl, ?_⟩
  intro D0 S σ H o A B Q E hw kk kx
  refine so D0 S σ H o _ B _ E hw (fun d c S1 v H1 h1 E1 x1 V1 => ?_) kx
  split at h1
  · rename_i xs
    obtain ⟨p, vs, rfl, ep, rp, cp⟩ := V1.items E1
    refine ⟨.inl ⟨rfl, vs, SqL.at ep⟩, se D0 S1 σ H1 o _ B _ E1 h1 (fun y cy S2 u H2 h2 E2 x2 V2 => ?_) (kx.on x1)⟩
    obtain ⟨s1, s2, j, z, hz, hj, hno, h2⟩ := h2
    have V1' := V1.mono x2
    exact ⟨p, u, y, xs, j, z, rfl, rfl, V1'.dp s1, V2.dp s2, s1, s2, hz, hj, hno, kk _ _ S2 _ H2 h2 E2 (x1.trans x2) (Val.of (.int _))⟩
  · exact h1.elim
end
end Pu

namespace Pu
open PySem L2

/-! ### plain laws of the readings -/
theorem lc_ok {α : Type} {wg : WTg} {wt : WTx} {we : WEx} {c : Prop} {S : Slots} {K : List PyData → Prop → Prop} (enc : α → PyData) (p : α → Bool) (f : α → PyData) : ∀ (xs : List α) (acc : List PyData) (ca : Prop),
    (∀ x ∈ xs, ∀ (Yes : PyData → Prop → Prop) (No : Prop), (p x = true → Yes (f x) True) → (p x = false → No) →
      wg (enc x) c S fun S1 => wt S1 (fun b S2 => S2 = S1 ∧ if b = true then we S1 (fun e ce S3 => S3 = S1 ∧ Yes e ce) noX else No) noX) →
    acc.length + xs.length ≤ 1000000 → ca → (∀ c' : Prop, c' → K (acc ++ (xs.filter p).map f) c') → lcL wg wt we c S (xs.map enc) acc ca K
  | [], acc, ca, _, _, hc, hK => by
    have q := hK ca hc
    rw [List.filter_nil, List.map_nil, List.append_nil] at q
    exact q
  | x :: xs, acc, ca, h, hl, hc, hK => by
    show wg (enc x) c S fun S1 => wt S1 (fun b S2 => S2 = S1 ∧ if b = true then we S1 (fun e ce S3 => S3 = S1 ∧ acc.length < sizeLine ∧ lcL wg wt we c S (xs.map enc) (acc ++ [e]) (ca ∧ (ce ∨ flat e = true)) K) noX else lcL wg wt we c S (xs.map enc) acc ca K) noX
    rw [List.length_cons] at hl
    refine h x List.mem_cons_self (fun e ce => acc.length < sizeLine ∧ lcL wg wt we c S (xs.map enc) (acc ++ [e]) (ca ∧ (ce ∨ flat e = true)) K) _ (fun hp => ⟨by rw [sizeLine_eq]; omega, ?_⟩) fun hp => ?_
    · refine lc_ok enc p f xs _ _ (fun y hy => h y (List.mem_cons_of_mem _ hy)) (by rw [List.length_append]; show acc.length + 1 + xs.length ≤ _; omega) ⟨hc, .inl trivial⟩ fun c' hc' => ?_
      have q := hK c' hc'
      rw [List.filter_cons, if_pos hp, List.map_cons] at q
      rw [List.append_assoc]
      exact q
    · refine lc_ok enc p f xs _ _ (fun y hy => h y (List.mem_cons_of_mem _ hy)) (by omega) hc fun c' hc' => ?_
      have q := hK c' hc'
      rw [List.filter_cons, if_neg (by rw [hp]; exact Bool.false_ne_true)] at q
      exact q
theorem for_ok {α τ : Type} {wg : WTg} {wb : WS} {c : Prop} {P : En} (enc : α → PyData) (step : τ → α → τ) (Rel : τ → Slots → Prop) : ∀ (xs : List α) (s : τ) (S : Slots),
    (∀ x ∈ xs, ∀ s S, Rel s S → ∀ Nx : Slots → Prop, (∀ S', Rel (step s x) S' → Nx S') → wg (enc x) c S fun S1 => wb S1 { P with nx := Nx, ct := Nx, bk := P.nx }) →
    Rel s S → (∀ S', Rel (xs.foldl step s) S' → P.nx S') → forL wg wb c P (xs.map enc) S
  | [], s, S, _, hr, hn => hn S hr
  | x :: xs, s, S, h, hr, hn => by
    show wg (enc x) c S fun S1 => wb S1 { P with nx := forL wg wb c P (xs.map enc), ct := forL wg wb c P (xs.map enc), bk := P.nx }
    exact h x List.mem_cons_self s S hr _ fun S' hr' => for_ok enc step Rel xs (step s x) S' (fun y hy => h y (List.mem_cons_of_mem _ hy)) hr' hn
/-- a loop that may leave early: Inv holds of the items that are left -/
theorem for_inv {wg : WTg} {wb : WS} {c : Prop} {P : En} (Inv : List PyData → Slots → Prop) : ∀ (ds : List PyData) (S : Slots),
    (∀ d r S, Inv (d :: r) S → ∀ Nx : Slots → Prop, (∀ S', Inv r S' → Nx S') → wg d c S fun S1 => wb S1 { P with nx := Nx, ct := Nx, bk := P.nx }) →
    Inv ds S → (∀ S', Inv [] S' → P.nx S') → forL wg wb c P ds S
  | [], S, _, hr, hn => hn S hr
  | d :: r, S, h, hr, hn => h d r S hr _ fun S' hr' => for_inv Inv r S' h hr' hn
theorem wh_ok {τ : Type} {wt : WTx} {wb : WS} {P : En} (Rel : τ → Slots → Prop) (m : τ → Nat)
    (h : ∀ s S, Rel s S → ∀ (Nx : Slots → Prop), (∀ s' S', m s' < m s → Rel s' S' → Nx S') → wt S (fun b S1 => if b = true then wb S1 { P with nx := Nx, ct := Nx, bk := P.nx } else P.nx S1) P.ex) : ∀ (n : Nat) (s : τ) (S : Slots), m s < n → Rel s S → whL wt wb P n S
  | 0, s, S, hm, _ => absurd hm (Nat.not_lt_zero _)
  | n + 1, s, S, hm, hr => h s S hr (whL wt wb P n) fun s' S' hlt hr' => wh_ok Rel m h n s' S' (Nat.lt_of_lt_of_le hlt (Nat.le_of_lt_succ hm)) hr'
theorem rangeD_map (lo : Int) (n : Nat) : rangeD lo n = (List.range n).map fun (i : Nat) => PyData.int (lo + (i : Int)) := rfl
theorem rangeD0 (n : Nat) : rangeD 0 n = (List.range n).map fun (i : Nat) => PyData.int (i : Int) := by
  unfold rangeD
  refine List.map_congr_left fun i _ => ?_
  rw [Int.zero_add]

/-! ### the data of this program -/
abbrev eI (i : Int) : PyData := .int i
abbrev eN (i : Nat) : PyData := .int (i : Int)
def eH (h : List Int) : PyData := .tuple (h.map .int)
def eP (s : Nat × Nat) : PyData := .tuple [.int (s.1 : Int), .int (s.2 : Int)]
theorem flat_ints (l : List Int) : flats (l.map PyData.int) = true := flats_iff.mpr fun x hx => by
  obtain ⟨i, _, rfl⟩ := List.mem_map.mp hx
  rfl
theorem flat_eH (h : List Int) : flat (eH h) = true := by
  unfold eH
  rw [flat]
  exact flat_ints h
theorem flat_eP (s : Nat × Nat) : flat (eP s) = true := rfl
theorem canLay_ints : ∀ (l : List Int), PyData.canLayAll0 (l.map PyData.int) = true
  | [] => rfl
  | x :: r => by
    show PyData.canLayAll0 (.int x :: r.map PyData.int) = true
    rw [PyData.canLayAll0, canLay_ints r]
    rfl
theorem canLay_eH (h : List Int) : PyData.canLay0 (eH h) = true := by
  unfold eH
  rw [PyData.canLay0]
  exact canLay_ints h
theorem depth_eH (h : List Int) : (eH h).depth = 1 := by
  unfold eH
  rw [PyData.depth, PySem.W.depth_ints]
theorem shaped_of {d : PyData} (h1 : d.canLay0 = true) (h2 : d.depth ≤ 64) : SeqAt.shaped d = true := by
  unfold SeqAt.shaped
  rw [h1, decide_eq_true h2]
  rfl
theorem shaped_int (i : Int) : SeqAt.shaped (.int i) = true := shaped_of (by simp [PyData.canLay0]) (by simp [PyData.depth])
theorem shaped_none : SeqAt.shaped .none = true := shaped_of (by simp [PyData.canLay0]) (by simp [PyData.depth])
theorem shaped_bool (b : Bool) : SeqAt.shaped (.bool b) = true := shaped_of (by simp [PyData.canLay0]) (by simp [PyData.depth])
theorem shaped_eH (h : List Int) : SeqAt.shaped (eH h) = true := shaped_of (canLay_eH h) (by rw [depth_eH]; omega)
theorem canLay_eP (s : Nat × Nat) : PyData.canLay0 (eP s) = true := by simp [eP, PyData.canLay0, PyData.canLayAll0]
theorem depth_eP (s : Nat × Nat) : (eP s).depth = 1 := by simp [eP, PyData.depth, PyData.depthAll]
theorem shaped_eP (s : Nat × Nat) : SeqAt.shaped (eP s) = true := shaped_of (canLay_eP s) (by rw [depth_eP]; omega)
theorem canLayAll_map {α : Type} {f : α → PyData} (h : ∀ x, (f x).canLay0 = true) : ∀ l : List α, PyData.canLayAll0 (l.map f) = true
  | [] => rfl
  | x :: r => by
    show PyData.canLayAll0 (f x :: r.map f) = true
    rw [PyData.canLayAll0, canLayAll_map h r, h x]
    rfl
theorem depthAll_map {α : Type} {f : α → PyData} {n : Nat} (h : ∀ x, (f x).depth ≤ n) : ∀ l : List α, PyData.depthAll (l.map f) ≤ n
  | [] => by show PyData.depthAll [] ≤ n; rw [PyData.depthAll]; omega
  | x :: r => by
    show PyData.depthAll (f x :: r.map f) ≤ n
    rw [PyData.depthAll]
    exact Nat.max_le.mpr ⟨h x, depthAll_map h r⟩
theorem shaped_list {α : Type} {f : α → PyData} {n : Nat} (h1 : ∀ x, (f x).canLay0 = true) (h2 : ∀ x, (f x).depth ≤ n) (hn : n ≤ 60) (l : List α) : SeqAt.shaped (.list (l.map f)) = true := by
  refine shaped_of ?_ ?_
  · rw [PyData.canLay0]
    exact canLayAll_map h1 l
  · rw [PyData.depth]
    have := depthAll_map h2 l
    omega
theorem flats_map {α : Type} {f : α → PyData} (h : ∀ x, flat (f x) = true) (l : List α) : flats (l.map f) = true := flats_iff.mpr fun x hx => by
  obtain ⟨i, _, rfl⟩ := List.mem_map.mp hx
  exact h i
/-! equality of data -/
theorem eqv_int (i j : Int) : PyData.eqv (.int i) (.int j) = decide (i = j) := by
  rw [PyData.eqv]
  exact Bool.beq_eq_decide_eq i j
theorem eqvAll_map {α : Type} {f : α → PyData} [DecidableEq α] (h : ∀ x y, PyData.eqv (f x) (f y) = decide (x = y)) : ∀ a b : List α, PyData.eqvAll (a.map f) (b.map f) = decide (a = b)
  | [], [] => by simp [PyData.eqvAll]
  | [], _ :: _ => by simp [PyData.eqvAll]
  | _ :: _, [] => by simp [PyData.eqvAll]
  | x :: a, y :: b => by
    show PyData.eqvAll (f x :: a.map f) (f y :: b.map f) = _
    rw [PyData.eqvAll, h x y, eqvAll_map h a b]
    by_cases e1 : x = y
    · by_cases e2 : a = b
      · simp [e1, e2]
      · simp [e1, e2]
    · simp [e1]
theorem eqv_eH (a b : List Int) : PyData.eqv (eH a) (eH b) = decide (a = b) := by
  unfold eH
  rw [PyData.eqv]
  exact eqvAll_map eqv_int a b
theorem eqv_list {α : Type} {f : α → PyData} [DecidableEq α] (h : ∀ x y, PyData.eqv (f x) (f y) = decide (x = y)) (a b : List α) : PyData.eqv (.list (a.map f)) (.list (b.map f)) = decide (a = b) := by
  rw [PyData.eqv]
  exact eqvAll_map h a b
theorem eqv_eP (a b : Nat × Nat) : PyData.eqv (eP a) (eP b) = decide (a = b) := by
  unfold eP
  simp only [PyData.eqv, PyData.eqvAll, Bool.and_true, Bool.beq_eq_decide_eq]
  obtain ⟨a1, a2⟩ := a
  obtain ⟨b1, b2⟩ := b
  by_cases e1 : a1 = b1
  · by_cases e2 : a2 = b2
    · simp [e1, e2]
    · have : ¬ (a2 : Int) = b2 := by omega
      simp [e1, e2, this]
  · have : ¬ (a1 : Int) = b1 := by omega
    simp [e1, this]
theorem any_map {α : Type} {f : α → PyData} [DecidableEq α] (h : ∀ x y, PyData.eqv (f x) (f y) = decide (x = y)) (x : α) : ∀ l : List α, ((l.map f).any fun z => PyData.eqv z (f x)) = decide (x ∈ l)
  | [] => by simp
  | y :: l => by
    show (PyData.eqv (f y) (f x) || ((l.map f).any fun z => PyData.eqv z (f x))) = _
    rw [h y x, any_map h x l]
    by_cases e : y = x
    · subst e
      simp
    · have e' : x ≠ y := fun z => e z.symm
      simp [e, e']
/-! places -/
theorem atD_int {h : List Int} {i : Nat} (hi : i < h.length) : atD (h.map PyData.int) (i : Int) = some (.int (h.getD i 0)) := by
  unfold atD ixN
  rw [List.length_map, if_pos (by omega), if_pos (by omega)]
  show (h.map PyData.int)[(i : Int).toNat]? = _
  rw [Int.toNat_natCast, List.getElem?_map, List.getElem?_eq_getElem hi, List.getD_eq_getElem?_getD, List.getElem?_eq_getElem hi]
  rfl
theorem atD_map {α : Type} {f : α → PyData} {l : List α} {i : Nat} {x : α} (h : l[i]? = some x) : atD (l.map f) (i : Int) = some (f x) := by
  have hi := (List.getElem?_eq_some_iff.mp h).1
  unfold atD ixN
  rw [List.length_map, if_pos (by omega), if_pos (by omega)]
  show (l.map f)[(i : Int).toNat]? = _
  rw [Int.toNat_natCast, List.getElem?_map, h]
  rfl
theorem ixN_nat {n i : Nat} (h : i < n) : ixN n (i : Int) = some i := by
  unfold ixN
  rw [if_pos (by omega), if_pos (by omega), Int.toNat_natCast]
end Pu

namespace Pu
open PySem L2
def Pure (n m : Nat) (sp : Spc) (w : WS) : Prop := ∀ (ds : List PyData) (A : PyData → Prop) (B : XC → Prop), ds.length = m → sp ds A B → w (startS n ds) ⟨fun _ => A .none, fun d _ _ => A d, fun _ => False, fun _ => False, fun x _ => B x⟩
def PureR (n m : Nat) (sp : Spc) (w : WS) : Prop := ∀ (ds : List PyData) (A : PyData → Prop) (B : XC → Prop) (a c : Addr), ds.length = m → sp ds A B →
  w (.rng a c :: startS n ds) ⟨fun S => S[0]? = some (.rng a c) ∧ A .none, fun d _ S => S[0]? = some (.rng a c) ∧ A d, fun _ => False, fun _ => False, fun x S => S[0]? = some (.rng a c) ∧ B x⟩
/-! ### what the defs of steps.py promise -/
def isInt : PyData → Bool
  | .int _ => true
  | _ => false
def sp_is_integer : Spc := fun ds A _ => ∃ d, ds = [d] ∧ typD d ≠ "dict" ∧ A (.bool (isInt d))
theorem sp_is_integer_eq {d : PyData} {A : PyData → Prop} {B : XC → Prop} : sp_is_integer [d] A B ↔ typD d ≠ "dict" ∧ A (.bool (isInt d)) :=
  ⟨fun ⟨_, h, h1, h2⟩ => by cases h; exact ⟨h1, h2⟩, fun ⟨h1, h2⟩ => ⟨_, rfl, h1, h2⟩⟩
def w_is_integer : WS :=
    (wRet (wAnd (wIsi "int" (wV 0)) (wNot (wIsi "bool" (wV 0)))))
theorem pure_is_integer : Pure 1 1 sp_is_integer w_is_integer := by
  rintro ds A B - ⟨d, rfl, h1, h2⟩
  cases d <;> simp_all [w_is_integer, startS, bl?, g2, gAdd, gDiv, gEq, gGe, gGt, gI, gIn, gInt, gIs, gIsNot, gLe, gLen, gList, gLt, gMM, gMod, gMul, gMulS, gNe, gNotIn, gPow, gSorted, gSub, gIadd, gSum, gTuple, puts, sV, sVs, slotM, wAnd, wApp, wAsg, wAug, wAugI, wB, wC, wCall, wCallR, wChain, wCons, wDraw, wDrop, wEnL, wEnT, wExt, wFn, wFnO, wFor, wGCons, wGNil, wGT, wIL, wIT, wIf, wIfS, wIsi, wIx, wLc, wLst, wMNil, wMO, wMV, wMix, wN, wNeg, wNil, wNot, wNotT, wO, wOp, wOr, wOwn, wPar, wR1, wR2, wRaise, wRaiseF, wRet, wSeq, wSet, wSetI, wSkip, wTAnd, wTNot, wTOr, wTru, wTry, wTryF, wTup, wV, wYes, typD, isTb, isInt]
def inR (d : PyData) (lo hi : Int) : Bool := match d with
  | .int i => decide (lo ≤ i) && decide (i ≤ hi)
  | _ => false
def sp_is_from : Spc := fun ds A _ => ∃ d lo hi, ds = [d, .int lo, .int hi] ∧ typD d ≠ "dict" ∧ A (.bool (inR d lo hi))
theorem sp_is_from_eq {d : PyData} {lo hi : Int} {A : PyData → Prop} {B : XC → Prop} : sp_is_from [d, .int lo, .int hi] A B ↔ typD d ≠ "dict" ∧ A (.bool (inR d lo hi)) :=
  ⟨fun ⟨_, _, _, h, h1, h2⟩ => by cases h; exact ⟨h1, h2⟩, fun ⟨h1, h2⟩ => ⟨_, _, _, rfl, h1, h2⟩⟩
def w_is_from : WS :=
    (wRet (wAnd (wCall sp_is_integer (wCons (wV 0) wNil)) (wChain gLe gLe (wV 1) (wV 0) (wV 2))))
theorem pure_is_from : Pure 3 3 sp_is_from w_is_from := by
  rintro ds A B - ⟨d, lo, hi, rfl, h1, h2⟩
  cases d <;> simp_all [w_is_from, startS, bl?, g2, gAdd, gDiv, gEq, gGe, gGt, gI, gIn, gInt, gIs, gIsNot, gLe, gLen, gList, gLt, gMM, gMod, gMul, gMulS, gNe, gNotIn, gPow, gSorted, gSub, gIadd, gSum, gTuple, puts, sV, sVs, slotM, wAnd, wApp, wAsg, wAug, wAugI, wB, wC, wCall, wCallR, wChain, wCons, wDraw, wDrop, wEnL, wEnT, wExt, wFn, wFnO, wFor, wGCons, wGNil, wGT, wIL, wIT, wIf, wIfS, wIsi, wIx, wLc, wLst, wMNil, wMO, wMV, wMix, wN, wNeg, wNil, wNot, wNotT, wO, wOp, wOr, wOwn, wPar, wR1, wR2, wRaise, wRaiseF, wRet, wSeq, wSet, wSetI, wSkip, wTAnd, wTNot, wTOr, wTru, wTry, wTryF, wTup, wV, wYes, sp_is_integer, typD, isInt, inR]
  rename_i i
  by_cases c1 : lo ≤ i
  · simpa [c1] using h2
  · simpa [c1] using h2
/-- the items of a tuple are no dicts -/
def plainD (d : PyData) : Prop := typD d ≠ "dict" ∧ ∀ xs, d = .tuple xs → ∀ x ∈ xs, typD x ≠ "dict"
abbrev big : Int := 1000000000000000000000000000000
def isHeapsD : PyData → Bool
  | .tuple xs => decide (2 ≤ xs.length) && decide (xs.length ≤ 6) && xs.all (fun x => inR x 0 big) && xs.any (fun x => match x with
    | .int i => decide (i ≠ 0)
    | _ => false)
  | _ => false
def sp_check_heaps : Spc := fun ds A B => ∃ d, ds = [d] ∧ plainD d ∧ (isHeapsD d = true → A .none) ∧ (isHeapsD d = false → B ("BadHeaps", []))
def w_check_heaps : WS :=
    (wSeq (wIfS (wTOr (wTNot (wB (wIsi "tuple" (wV 0)))) (wTNot (wB (wChain gLe gLe (wC (.int 2)) (wFn gLen (wCons (wV 0) wNil)) (wC (.int 6)))))) (wRaise "BadHeaps") wSkip)
    (wSeq (wFor (wIT (wV 0)) (wN 1) (wIfS (wTNot (wB (wCall sp_is_from (wCons (wV 1) (wCons (wC (.int 0)) (wCons (wC (.int 1000000000000000000000000000000)) wNil)))))) (wRaise "BadHeaps") wSkip))
    (wIfS (wB (wOp gEq (wFn (gMM max) (wCons (wV 0) wNil)) (wC (.int 0)))) (wRaise "BadHeaps") wSkip)))
theorem all_ints : ∀ {xs : List PyData}, xs.all (fun x => inR x 0 big) = true → ∃ ns : List Int, xs = ns.map .int ∧ ∀ n ∈ ns, 0 ≤ n ∧ n ≤ big
  | [], _ => ⟨[], rfl, fun n h => by cases h⟩
  | x :: r, h => by
    rw [List.all_cons, Bool.and_eq_true] at h
    obtain ⟨ns, rfl, hn⟩ := all_ints h.2
    cases x with
    | int i =>
      have h1 := h.1
      simp only [inR, Bool.and_eq_true, decide_eq_true_eq] at h1
      exact ⟨i :: ns, rfl, fun n hm => by
        rcases List.mem_cons.mp hm with z | z
        · rw [z]; exact h1
        · exact hn n z⟩
    | _ => exact absurd h.1 (by simp [inR])
theorem fold_max_ge : ∀ (ns : List Int) (n : Int), n ≤ ns.foldl max n ∧ ∀ x ∈ ns, x ≤ ns.foldl max n
  | [], n => ⟨Int.le_refl _, fun x h => by cases h⟩
  | y :: r, n => by
    obtain ⟨h1, h2⟩ := fold_max_ge r (max n y)
    refine ⟨Int.le_trans (Int.le_max_left n y) h1, fun x h => ?_⟩
    rcases List.mem_cons.mp h with z | z
    · rw [z]; exact Int.le_trans (Int.le_max_right n y) h1
    · exact h2 x z
theorem fold_max_in : ∀ (ns : List Int) (n : Int), ns.foldl max n = n ∨ ns.foldl max n ∈ ns
  | [], n => .inl rfl
  | y :: r, n => by
    rcases fold_max_in r (max n y) with h | h
    · show r.foldl max (max n y) = n ∨ r.foldl max (max n y) ∈ y :: r
      rw [h]
      by_cases c : n ≤ y
      · right; rw [Int.max_eq_right c]; exact List.mem_cons_self
      · left; exact Int.max_eq_left (by omega)
    · right; exact List.mem_cons_of_mem _ h
theorem any_ints (ns : List Int) : ((ns.map PyData.int).any fun x => match x with
    | .int i => decide (i ≠ 0)
    | _ => false) = ns.any fun i => decide (i ≠ 0) := by
  rw [List.any_map]
  rfl
theorem pure_check_heaps : Pure 2 1 sp_check_heaps w_check_heaps := by
  rintro ds A B - ⟨d, rfl, ⟨hp, hq⟩, h1, h2⟩
  cases d with
  | tuple xs =>
    simp only [w_check_heaps, startS, bl?, g2, gAdd, gDiv, gEq, gGe, gGt, gI, gIn, gInt, gIs, gIsNot, gLe, gLen, gList, gLt, gMM, gMod, gMul, gMulS, gNe, gNotIn, gPow, gSorted, gSub, gIadd, gSum, gTuple, puts, sV, sVs, slotM, wAnd, wApp, wAsg, wAug, wAugI, wB, wC, wCall, wCallR, wChain, wCons, wDraw, wDrop, wEnL, wEnT, wExt, wFn, wFnO, wFor, wGCons, wGNil, wGT, wIL, wIT, wIf, wIfS, wIsi, wIx, wLc, wLst, wMNil, wMO, wMV, wMix, wN, wNeg, wNil, wNot, wNotT, wO, wOp, wOr, wOwn, wPar, wR1, wR2, wRaise, wRaiseF, wRet, wSeq, wSet, wSetI, wSkip, wTAnd, wTNot, wTOr, wTru, wTry, wTryF, wTup, wV, wYes, typD, isTb]
    simp
    by_cases c1 : 2 ≤ xs.length
    · by_cases c2 : xs.length ≤ 6
      · rw [if_pos (by omega), if_neg (by omega)]
        cases hall : xs.all (fun x => inR x 0 big) with
        | true =>
          obtain ⟨ns, rfl, hn⟩ := all_ints hall
          refine for_inv (fun r S => (∃ s, S = [.im (.tuple (ns.map .int)), s]) ∧ ∀ x ∈ r, x ∈ ns.map PyData.int) _ _ (fun d r S ⟨⟨s, es⟩, hr⟩ Nx hN => ?_) ⟨⟨_, rfl⟩, fun x h => h⟩ fun S ⟨⟨s, es⟩, _⟩ => ?_
          · subst es
            obtain ⟨n, hm, rfl⟩ := List.mem_map.mp (hr _ List.mem_cons_self)
            obtain ⟨b1, b2⟩ := hn n hm
            have hi : inR (.int n) 0 big = true := by simp only [inR, decide_eq_true b1, decide_eq_true b2]; rfl
            simp only [bl?, g2, gAdd, gDiv, gEq, gGe, gGt, gI, gIn, gInt, gIs, gIsNot, gLe, gLen, gList, gLt, gMM, gMod, gMul, gMulS, gNe, gNotIn, gPow, gSorted, gSub, gIadd, gSum, gTuple, puts, sV, sVs, slotM, wAnd, wApp, wAsg, wAug, wAugI, wB, wC, wCall, wCallR, wChain, wCons, wDraw, wDrop, wEnL, wEnT, wExt, wFn, wFnO, wFor, wGCons, wGNil, wGT, wIL, wIT, wIf, wIfS, wIsi, wIx, wLc, wLst, wMNil, wMO, wMV, wMix, wN, wNeg, wNil, wNot, wNotT, wO, wOp, wOr, wOwn, wPar, wR1, wR2, wRaise, wRaiseF, wRet, wSeq, wSet, wSetI, wSkip, wTAnd, wTNot, wTOr, wTru, wTry, wTryF, wTup, wV, wYes, sp_is_from_eq]
            simp [typD, hi, flat]
            exact hN _ ⟨⟨_, rfl⟩, fun x hx => hr x (List.mem_cons_of_mem _ hx)⟩
          · subst es
            cases ns with
            | nil => simp at c1
            | cons n ns =>
              obtain ⟨g1, g2⟩ := fold_max_ge ns n
              have hz : ∀ x ∈ n :: ns, x ≤ ns.foldl max n := fun x hx => by
                rcases List.mem_cons.mp hx with z | z
                · rw [z]; exact g1
                · exact g2 x z
              simp
              refine ⟨n, ns, ints?_map (n :: ns), shaped_int _, shaped_int _, ?_⟩
              rw [eqv_int]
              have lx : (decide (2 ≤ ((n :: ns).map PyData.int).length) && decide (((n :: ns).map PyData.int).length ≤ 6)) = true := by
                rw [decide_eq_true c1, decide_eq_true c2]; rfl
              by_cases c3 : ns.foldl max n = 0
              · rw [if_pos (decide_eq_true c3)]
                refine h2 ?_
                simp only [isHeapsD]
                rw [lx, hall, any_ints]
                simp only [Bool.true_and]
                rw [List.any_eq_false]
                intro x hx
                have q1 := hz x hx
                have q2 := (hn x hx).1
                simp
                omega
              · rw [if_neg (by simpa using c3)]
                refine h1 ?_
                simp only [isHeapsD]
                rw [lx, hall, any_ints]
                simp only [Bool.true_and]
                rw [List.any_eq_true]
                refine ⟨ns.foldl max n, ?_, by simpa using c3⟩
                rcases fold_max_in ns n with q | q
                · rw [q]; exact List.mem_cons_self
                · exact List.mem_cons_of_mem _ q
        | false =>
          have hB := h2 (by simp only [isHeapsD]; rw [hall]; simp)
          refine for_inv (fun r S => (∃ s, S = [.im (.tuple xs), s]) ∧ (∀ x ∈ r, x ∈ xs) ∧ r.all (fun x => inR x 0 big) = false) _ _ (fun d r S ⟨⟨s, es⟩, hr, ha⟩ Nx hN => ?_) ⟨⟨_, rfl⟩, fun x h => h, hall⟩ fun S ⟨_, _, z⟩ => by cases z
          subst es
          have hd := hq xs rfl d (hr _ List.mem_cons_self)
          simp only [bl?, g2, gAdd, gDiv, gEq, gGe, gGt, gI, gIn, gInt, gIs, gIsNot, gLe, gLen, gList, gLt, gMM, gMod, gMul, gMulS, gNe, gNotIn, gPow, gSorted, gSub, gIadd, gSum, gTuple, puts, sV, sVs, slotM, wAnd, wApp, wAsg, wAug, wAugI, wB, wC, wCall, wCallR, wChain, wCons, wDraw, wDrop, wEnL, wEnT, wExt, wFn, wFnO, wFor, wGCons, wGNil, wGT, wIL, wIT, wIf, wIfS, wIsi, wIx, wLc, wLst, wMNil, wMO, wMV, wMix, wN, wNeg, wNil, wNot, wNotT, wO, wOp, wOr, wOwn, wPar, wR1, wR2, wRaise, wRaiseF, wRet, wSeq, wSet, wSetI, wSkip, wTAnd, wTNot, wTOr, wTru, wTry, wTryF, wTup, wV, wYes, sp_is_from_eq]
          cases hi : inR d 0 big with
          | true =>
            simp [hd, hi]
            refine hN _ ⟨⟨_, rfl⟩, fun x hx => hr x (List.mem_cons_of_mem _ hx), ?_⟩
            rw [List.all_cons, hi] at ha
            exact ha
          | false =>
            simp [hd, hi]
            exact hB
      · rw [if_pos (by omega), if_pos (by omega)]
        exact h2 (by simp only [isHeapsD, decide_eq_false c2]; simp)
    · rw [if_neg (by omega)]
      exact h2 (by simp only [isHeapsD, decide_eq_false c1]; simp)
  | _ => simp_all [w_check_heaps, startS, bl?, g2, gAdd, gDiv, gEq, gGe, gGt, gI, gIn, gInt, gIs, gIsNot, gLe, gLen, gList, gLt, gMM, gMod, gMul, gMulS, gNe, gNotIn, gPow, gSorted, gSub, gIadd, gSum, gTuple, puts, sV, sVs, slotM, wAnd, wApp, wAsg, wAug, wAugI, wB, wC, wCall, wCallR, wChain, wCons, wDraw, wDrop, wEnL, wEnT, wExt, wFn, wFnO, wFor, wGCons, wGNil, wGT, wIL, wIT, wIf, wIfS, wIsi, wIx, wLc, wLst, wMNil, wMO, wMV, wMix, wN, wNeg, wNil, wNot, wNotT, wO, wOp, wOr, wOwn, wPar, wR1, wR2, wRaise, wRaiseF, wRet, wSeq, wSet, wSetI, wSkip, wTAnd, wTNot, wTOr, wTru, wTry, wTryF, wTup, wV, wYes, typD, isTb, isHeapsD]

/-! heaps as lists -/
structure OkH (h : List Int) : Prop where
  l2 : 2 ≤ h.length
  l6 : h.length ≤ 6
  rg : ∀ x ∈ h, 0 ≤ x ∧ x ≤ big
  nz : ∃ x ∈ h, x ≠ 0
theorem typ_eH (h : List Int) : typD (eH h) ≠ "dict" := by simp [eH, typD]
theorem plain_eH (h : List Int) : plainD (eH h) := ⟨typ_eH h, fun xs e x hx => by
  have e' : h.map PyData.int = xs := by simpa [eH] using e
  rw [← e'] at hx
  obtain ⟨i, _, rfl⟩ := List.mem_map.mp hx
  simp [typD]⟩
theorem heaps_ok {h : List Int} (o : OkH h) : isHeapsD (eH h) = true := by
  simp only [isHeapsD, eH, List.length_map, decide_eq_true o.l2, decide_eq_true o.l6, any_ints, Bool.and_true, Bool.true_and]
  rw [Bool.and_eq_true, List.all_eq_true, List.any_eq_true]
  refine ⟨fun x hx => ?_, ?_⟩
  · obtain ⟨i, hi, rfl⟩ := List.mem_map.mp hx
    obtain ⟨b1, b2⟩ := o.rg i hi
    simp only [inR, decide_eq_true b1, decide_eq_true b2]
    rfl
  · obtain ⟨x, hx, hn⟩ := o.nz
    exact ⟨x, hx, decide_eq_true hn⟩
theorem check_ok {h : List Int} (o : OkH h) {A : PyData → Prop} {B : XC → Prop} (hA : A .none) : sp_check_heaps [eH h] A B :=
  ⟨_, rfl, plain_eH h, fun _ => hA, fun z => by rw [heaps_ok o] at z; cases z⟩
/-- a step in range -/
def okS (n : Nat) (s : Nat × Nat) : Prop := s.1 < n ∧ s.2 < n ∧ s.1 ≠ s.2
def isStepD (d : PyData) (n : Int) : Bool := match d with
  | .tuple [x, y] => inR x 0 (n - 1) && inR y 0 (n - 1) && (match x, y with
    | .int i, .int j => decide (i ≠ j)
    | _, _ => false)
  | _ => false
theorem typ_tup {xs : List PyData} : typD (.tuple xs) = "tuple" := rfl
theorem isT_tt : isTb "tuple" "tuple" = true := by decide
def sp_is_step : Spc := fun ds A _ => ∃ d n, ds = [d, .int n] ∧ plainD d ∧ A (.bool (isStepD d n))
theorem sp_is_step_eq {d : PyData} {n : Int} {A : PyData → Prop} {B : XC → Prop} : sp_is_step [d, .int n] A B ↔ plainD d ∧ A (.bool (isStepD d n)) :=
  ⟨fun ⟨_, _, h, h1, h2⟩ => by cases h; exact ⟨h1, h2⟩, fun ⟨h1, h2⟩ => ⟨_, _, rfl, h1, h2⟩⟩
def w_is_step : WS :=
    (wSeq (wIfS (wTOr (wTNot (wB (wIsi "tuple" (wV 0)))) (wB (wOp gNe (wFn gLen (wCons (wV 0) wNil)) (wC (.int 2))))) (wRet (wC (.bool false))) wSkip)
    (wSeq (wIfS (wTOr (wTNot (wB (wCall sp_is_from (wCons (wIx (wV 0) (wC (.int 0))) (wCons (wC (.int 0)) (wCons (wOp gSub (wV 1) (wC (.int 1))) wNil)))))) (wTNot (wB (wCall sp_is_from (wCons (wIx (wV 0) (wC (.int 1))) (wCons (wC (.int 0)) (wCons (wOp gSub (wV 1) (wC (.int 1))) wNil))))))) (wRet (wC (.bool false))) wSkip)
    (wRet (wOp gNe (wIx (wV 0) (wC (.int 0))) (wIx (wV 0) (wC (.int 1)))))))
theorem pure_is_step : Pure 2 2 sp_is_step w_is_step := by
  rintro ds A B - ⟨d, n, rfl, ⟨hp, hq⟩, h⟩
  cases d with
  | tuple xs =>
    have hq := hq xs rfl
    simp only [w_is_step, bl?, g2, gAdd, gDiv, gEq, gGe, gGt, gI, gIn, gInt, gIs, gIsNot, gLe, gLen, gList, gLt, gMM, gMod, gMul, gMulS, gNe, gNotIn, gPow, gSorted, gSub, gIadd, gSum, gTuple, puts, sV, sVs, slotM, wAnd, wApp, wAsg, wAug, wAugI, wB, wC, wCall, wCallR, wChain, wCons, wDraw, wDrop, wEnL, wEnT, wExt, wFn, wFnO, wFor, wGCons, wGNil, wGT, wIL, wIT, wIf, wIfS, wIsi, wIx, wLc, wLst, wMNil, wMO, wMV, wMix, wN, wNeg, wNil, wNot, wNotT, wO, wOp, wOr, wOwn, wPar, wR1, wR2, wRaise, wRaiseF, wRet, wSeq, wSet, wSetI, wSkip, wTAnd, wTNot, wTOr, wTru, wTry, wTryF, wTup, wV, wYes, startS, List.length_cons, List.length_nil, List.map_cons, List.map_nil, List.getElem?_cons_zero, List.getElem?_cons_succ, List.set_cons_zero, List.set_cons_succ, List.cons_append, List.nil_append, List.append_nil, List.replicate_succ, List.replicate_zero, Nat.reduceAdd, Nat.reduceSub, ↓reduceIte, Bool.false_eq_true, reduceCtorEq, true_and, and_true, true_or, or_true, false_or, or_false, Bool.not_true, Bool.not_false, Bool.true_and, Bool.false_and, Bool.and_true, decide_eq_true_eq, Bool.not_eq_eq_eq_not, exists_eq_left, exists_eq_left', Option.some.injEq, typ_tup, isT_tt, sp_is_from_eq]
    match xs, hq with
    | [], _ => simpa [shaped_int, eqv_int, isStepD] using h
    | [x], _ => simpa [shaped_int, eqv_int, isStepD] using h
    | [x, y], hq =>
      have hx := hq x (by simp)
      have hy := hq y (by simp)
      simp [shaped_int, eqv_int, atD, ixN, hx, hy]
      simp only [isStepD] at h
      cases c1 : inR x 0 (n - 1) with
      | false => rw [c1] at h; simpa using h
      | true =>
        cases c2 : inR y 0 (n - 1) with
        | false => rw [c1, c2] at h; simpa using h
        | true =>
          rw [c1, c2] at h
          cases x <;> simp [inR] at c1
          cases y <;> simp [inR] at c2
          simpa [shaped_int, eqv_int] using h
    | x :: y :: z :: r, _ =>
      have e : ¬ ((r.length : Int) + 1 + 1 + 1 = 2) := by omega
      simpa [shaped_int, eqv_int, isStepD, e] using h
  | _ => simp_all [w_is_step, startS, bl?, g2, gAdd, gDiv, gEq, gGe, gGt, gI, gIn, gInt, gIs, gIsNot, gLe, gLen, gList, gLt, gMM, gMod, gMul, gMulS, gNe, gNotIn, gPow, gSorted, gSub, gIadd, gSum, gTuple, puts, sV, sVs, slotM, wAnd, wApp, wAsg, wAug, wAugI, wB, wC, wCall, wCallR, wChain, wCons, wDraw, wDrop, wEnL, wEnT, wExt, wFn, wFnO, wFor, wGCons, wGNil, wGT, wIL, wIT, wIf, wIfS, wIsi, wIx, wLc, wLst, wMNil, wMO, wMV, wMix, wN, wNeg, wNil, wNot, wNotT, wO, wOp, wOr, wOwn, wPar, wR1, wR2, wRaise, wRaiseF, wRet, wSeq, wSet, wSetI, wSkip, wTAnd, wTNot, wTOr, wTru, wTry, wTryF, wTup, wV, wYes, typD, isTb, isStepD]
theorem plain_eP (s : Nat × Nat) : plainD (eP s) := ⟨by simp [eP, typD], fun xs e x hx => by
  have e' : [PyData.int (s.1 : Int), .int (s.2 : Int)] = xs := by simpa [eP] using e
  rw [← e'] at hx
  simp at hx
  rcases hx with z | z <;> (rw [z]; simp [typD])⟩
theorem isStep_eP (s : Nat × Nat) (n : Nat) : isStepD (eP s) n = (decide (s.1 < n) && decide (s.2 < n) && decide (s.1 ≠ s.2)) := by
  unfold isStepD eP inR
  by_cases c1 : s.1 < n
  · by_cases c2 : s.2 < n
    · by_cases c3 : s.1 = s.2
      · have : (s.1 : Int) = s.2 := by omega
        simp [c1, c2, c3]
      · have : ¬ (s.1 : Int) = s.2 := by omega
        have q1 : (s.1 : Int) ≤ n - 1 := by omega
        have q2 : (s.2 : Int) ≤ n - 1 := by omega
        simp [c1, c2, c3, this, q1, q2]
    · have q2 : ¬ (s.2 : Int) ≤ n - 1 := by omega
      simp [c1, c2, q2]
  · have q2 : ¬ (s.1 : Int) ≤ n - 1 := by omega
    simp [c1, q2]
/-- can a step be made; the heaps behind it -/
def gt (h : List Int) (i : Nat) : Int := h.getD i 0
theorem at_gt {h : List Int} {i : Nat} (hi : i < h.length) : atD (h.map PyData.int) (i : Int) = some (.int (gt h i)) := atD_int hi
def can (h : List Int) (s : Nat × Nat) : Bool := decide (0 < gt h s.2) && decide (gt h s.2 ≤ gt h s.1)
def beh (h : List Int) (s : Nat × Nat) : List Int :=
  (h.set s.1 (gt h s.1 - gt h s.2)).set s.2 (gt (h.set s.1 (gt h s.1 - gt h s.2)) s.2 + gt h s.2)
def sp_can_be_made : Spc := fun ds A _ => ∃ h s, ds = [eH h, eP s] ∧ s.1 < h.length ∧ s.2 < h.length ∧ A (.bool (can h s))
def w_can_be_made : WS :=
    (wSeq (wAsg (wV 1) (wGT 2 (wGCons (wN 2) (wGCons (wN 3) wGNil))))
    (wRet (wChain gLt gLe (wC (.int 0)) (wIx (wV 0) (wV 3)) (wIx (wV 0) (wV 2)))))
theorem flat_int (i : Int) : flat (.int i) = true := rfl
theorem if_dec {c : Prop} [Decidable c] {A : Bool → Prop} {b : Bool} (h : A (decide c && b)) : if c then A b else A false := by
  by_cases k : c
  · rw [if_pos k]; rw [decide_eq_true k] at h; exact h
  · rw [if_neg k]; rw [decide_eq_false k] at h; exact h
theorem pure_can_be_made : Pure 4 2 sp_can_be_made w_can_be_made := by
  rintro ds A B - ⟨h, ⟨i, j⟩, rfl, hi, hj, hA⟩
  have hi : i < h.length := hi
  have hj : j < h.length := hj
  simp only [w_can_be_made, bl?, g2, gAdd, gDiv, gEq, gGe, gGt, gI, gIn, gInt, gIs, gIsNot, gLe, gLen, gList, gLt, gMM, gMod, gMul, gMulS, gNe, gNotIn, gPow, gSorted, gSub, gIadd, gSum, gTuple, puts, sV, sVs, slotM, wAnd, wApp, wAsg, wAug, wAugI, wB, wC, wCall, wCallR, wChain, wCons, wDraw, wDrop, wEnL, wEnT, wExt, wFn, wFnO, wFor, wGCons, wGNil, wGT, wIL, wIT, wIf, wIfS, wIsi, wIx, wLc, wLst, wMNil, wMO, wMV, wMix, wN, wNeg, wNil, wNot, wNotT, wO, wOp, wOr, wOwn, wPar, wR1, wR2, wRaise, wRaiseF, wRet, wSeq, wSet, wSetI, wSkip, wTAnd, wTNot, wTOr, wTru, wTry, wTryF, wTup, wV, wYes, startS, List.length_cons, List.length_nil, List.map_cons, List.map_nil, List.getElem?_cons_zero, List.getElem?_cons_succ, List.set_cons_zero, List.set_cons_succ, List.cons_append, List.nil_append, List.append_nil, List.replicate_succ, List.replicate_zero, Nat.reduceAdd, Nat.reduceSub, ↓reduceIte, Bool.false_eq_true, reduceCtorEq, true_and, and_true, true_or, or_true, false_or, or_false, Bool.not_true, Bool.not_false, Bool.true_and, Bool.false_and, Bool.and_true, decide_eq_true_eq, Bool.not_eq_eq_eq_not, exists_eq_left, exists_eq_left', Option.some.injEq, eH, eP, at_gt hi, at_gt hj, flat_int]
  exact if_dec (A := fun b => A (.bool b)) hA
def sp_behind : Spc := fun ds A _ => ∃ h s, ds = [eH h, eP s] ∧ s.1 < h.length ∧ s.2 < h.length ∧ A (eH (beh h s))
def w_behind : WS :=
    (wSeq (wAsg (wV 1) (wGT 2 (wGCons (wN 2) (wGCons (wN 3) wGNil))))
    (wSeq (wOwn 4 (wFnO gList (wCons (wV 0) wNil)))
    (wSeq (wAugI 4 gSub (wV 2) (wIx (wV 0) (wV 3)))
    (wSeq (wAugI 4 gIadd (wV 3) (wIx (wV 0) (wV 3)))
    (wRet (wFn gTuple (wCons (wV 4) wNil)))))))
theorem map_set_int (h : List Int) (i : Nat) (x : Int) : (h.map PyData.int).set i (.int x) = (h.set i x).map .int := by rw [List.map_set]
theorem nat_le (i : Nat) : (0 : Int) ≤ i := Int.natCast_nonneg i
theorem pure_behind : Pure 5 2 sp_behind w_behind := by
  rintro ds A B - ⟨h, ⟨i, j⟩, rfl, hi, hj, hA⟩
  have hi : i < h.length := hi
  have hj : j < h.length := hj
  have hj' : j < (h.set i (gt h i - gt h j)).length := by rw [List.length_set]; exact hj
  simp only [w_behind, bl?, g2, gAdd, gDiv, gEq, gGe, gGt, gI, gIn, gInt, gIs, gIsNot, gLe, gLen, gList, gLt, gMM, gMod, gMul, gMulS, gNe, gNotIn, gPow, gSorted, gSub, gIadd, gSum, gTuple, puts, sV, sVs, slotM, wAnd, wApp, wAsg, wAug, wAugI, wB, wC, wCall, wCallR, wChain, wCons, wDraw, wDrop, wEnL, wEnT, wExt, wFn, wFnO, wFor, wGCons, wGNil, wGT, wIL, wIT, wIf, wIfS, wIsi, wIx, wLc, wLst, wMNil, wMO, wMV, wMix, wN, wNeg, wNil, wNot, wNotT, wO, wOp, wOr, wOwn, wPar, wR1, wR2, wRaise, wRaiseF, wRet, wSeq, wSet, wSetI, wSkip, wTAnd, wTNot, wTOr, wTru, wTry, wTryF, wTup, wV, wYes, startS, List.length_cons, List.length_nil, List.map_cons, List.map_nil, List.getElem?_cons_zero, List.getElem?_cons_succ, List.set_cons_zero, List.set_cons_succ, List.cons_append, List.nil_append, List.append_nil, List.replicate_succ, List.replicate_zero, Nat.reduceAdd, Nat.reduceSub, ↓reduceIte, Bool.false_eq_true, reduceCtorEq, true_and, and_true, true_or, or_true, false_or, or_false, Bool.not_true, Bool.not_false, Bool.true_and, Bool.false_and, Bool.and_true, decide_eq_true_eq, Bool.not_eq_eq_eq_not, exists_eq_left, exists_eq_left', Option.some.injEq, eH, eP, at_gt hi, at_gt hj, flat_int, flat_ints, List.length_map, ixN_nat hi, map_set_int, at_gt hj', ixN_nat hj', nat_le]
  exact ⟨⟨_, rfl⟩, ⟨_, rfl⟩, hA⟩
end Pu


namespace Pu
open PySem L2
theorem at_ints {l : List Int} {i : Int} (h0 : 0 ≤ i) (h1 : i < l.length) : ∃ z, atI (l.map V.int) i = some (.int z) ∧ z ∈ l := by
  obtain ⟨j, rfl⟩ := Int.eq_ofNat_of_zero_le h0
  have hj : j < l.length := by omega
  refine ⟨l[j], ?_, List.getElem_mem hj⟩
  unfold atI ixN
  rw [List.length_map, if_pos (by omega), if_pos (by omega)]
  show (l.map V.int)[(j : Int).toNat]? = _
  rw [Int.toNat_natCast, List.getElem?_map, List.getElem?_eq_getElem hj]
  rfl
theorem fmod_in {i j : Int} (h : 1 ≤ j) : 0 ≤ i.fmod j ∧ i.fmod j < j := by
  rw [Int.fmod_eq_emod_of_nonneg i (by omega)]
  exact ⟨Int.emod_nonneg _ (by omega), Int.emod_lt_of_pos _ (by omega)⟩
def eO : Option Nat → PyData
  | none => .none
  | some k => .int (k : Int)
theorem flat_eO (o : Option Nat) : flat (eO o) = true := by cases o <;> rfl
def eL (p : List (Nat × Nat)) : PyData := .tuple (p.map eP)
theorem flats_eP (p : List (Nat × Nat)) : flats (p.map eP) = true := flats_map flat_eP p
def goneF : List Int → List (Nat × Nat) → Nat → List Int × Option Nat
  | h, [], _ => (h, none)
  | h, s :: r, k => if can h s = true then goneF (beh h s) r (k + 1) else (h, some k)
theorem beh_len (h : List Int) (s : Nat × Nat) : (beh h s).length = h.length := by unfold beh; rw [List.length_set, List.length_set]
def InP (n : Nat) (p : List (Nat × Nat)) : Prop := ∀ s ∈ p, s.1 < n ∧ s.2 < n
def OkP (n : Nat) (p : List (Nat × Nat)) : Prop := ∀ s ∈ p, okS n s
theorem OkP.inP {n : Nat} {p : List (Nat × Nat)} (h : OkP n p) : InP n p := fun s hs => ⟨(h s hs).1, (h s hs).2.1⟩
theorem can_use {h : List Int} {s : Nat × Nat} {A : PyData → Prop} {B : XC → Prop} (h1 : s.1 < h.length) (h2 : s.2 < h.length) (hA : A (.bool (can h s))) : sp_can_be_made [eH h, eP s] A B := ⟨h, s, rfl, h1, h2, hA⟩
theorem beh_use {h : List Int} {s : Nat × Nat} {A : PyData → Prop} {B : XC → Prop} (h1 : s.1 < h.length) (h2 : s.2 < h.length) (hA : A (eH (beh h s))) : sp_behind [eH h, eP s] A B := ⟨h, s, rfl, h1, h2, hA⟩
def sp_gone_through : Spc := fun ds A _ => ∃ h p, ds = [eH h, eL p] ∧ InP h.length p ∧ A (.tuple [eH (goneF h p 0).1, eO (goneF h p 0).2])
def w_gone_through : WS :=
    (wSeq (wFor (wEnT (wV 1)) (wGT 2 (wGCons (wN 2) (wGCons (wN 3) wGNil))) (wSeq (wIfS (wTNot (wB (wCall sp_can_be_made (wCons (wV 0) (wCons (wV 3) wNil))))) (wRet (wTup (wCons (wV 0) (wCons (wV 2) wNil)))) wSkip)
    (wSet 0 (wCall sp_behind (wCons (wV 0) (wCons (wV 3) wNil))))))
    (wRet (wTup (wCons (wV 0) (wCons (wC .none) wNil)))))
theorem pure_gone_through : Pure 4 2 sp_gone_through w_gone_through := by
  rintro ds A B - ⟨h, p, rfl, hp, hA⟩
  simp only [w_gone_through, bl?, g2, gAdd, gDiv, gEq, gGe, gGt, gI, gIn, gInt, gIs, gIsNot, gLe, gLen, gList, gLt, gMM, gMod, gMul, gMulS, gNe, gNotIn, gPow, gSorted, gSub, gIadd, gSum, gTuple, puts, sV, sVs, slotM, wAnd, wApp, wAsg, wAug, wAugI, wB, wC, wCall, wCallR, wChain, wCons, wDraw, wDrop, wEnL, wEnT, wExt, wFn, wFnO, wFor, wGCons, wGNil, wGT, wIL, wIT, wIf, wIfS, wIsi, wIx, wLc, wLst, wMNil, wMO, wMV, wMix, wN, wNeg, wNil, wNot, wNotT, wO, wOp, wOr, wOwn, wPar, wR1, wR2, wRaise, wRaiseF, wRet, wSeq, wSet, wSetI, wSkip, wTAnd, wTNot, wTOr, wTru, wTry, wTryF, wTup, wV, wYes, startS, List.length_cons, List.length_nil, List.map_cons, List.map_nil, List.getElem?_cons_zero, List.getElem?_cons_succ, List.set_cons_zero, List.set_cons_succ, List.cons_append, List.nil_append, List.append_nil, List.replicate_succ, List.replicate_zero, Nat.reduceAdd, Nat.reduceSub, ↓reduceIte, Bool.false_eq_true, reduceCtorEq, true_and, and_true, true_or, or_true, false_or, or_false, Bool.not_true, Bool.not_false, Bool.true_and, Bool.false_and, Bool.and_true, decide_eq_true_eq, Bool.not_eq_eq_eq_not, exists_eq_left, exists_eq_left', Option.some.injEq, eL]
  refine for_inv (fun r S => ∃ k q g s2 s3, r = enumFr k (q.map eP) ∧ S = [.im (eH g), .im (.tuple (p.map eP)), s2, s3] ∧ InP g.length q ∧ A (.tuple [eH (goneF g q k).1, eO (goneF g q k).2])) _ _ ?_ ⟨0, p, h, _, _, rfl, rfl, hp, hA⟩ ?_
  · rintro d r S ⟨k, q, g, s2, s3, er, rfl, hq, hA⟩ Nx hN
    cases q with
    | nil => cases er
    | cons s q =>
      cases er
      have hs := hq s List.mem_cons_self
      simp only [bl?, g2, gAdd, gDiv, gEq, gGe, gGt, gI, gIn, gInt, gIs, gIsNot, gLe, gLen, gList, gLt, gMM, gMod, gMul, gMulS, gNe, gNotIn, gPow, gSorted, gSub, gIadd, gSum, gTuple, puts, sV, sVs, slotM, wAnd, wApp, wAsg, wAug, wAugI, wB, wC, wCall, wCallR, wChain, wCons, wDraw, wDrop, wEnL, wEnT, wExt, wFn, wFnO, wFor, wGCons, wGNil, wGT, wIL, wIT, wIf, wIfS, wIsi, wIx, wLc, wLst, wMNil, wMO, wMV, wMix, wN, wNeg, wNil, wNot, wNotT, wO, wOp, wOr, wOwn, wPar, wR1, wR2, wRaise, wRaiseF, wRet, wSeq, wSet, wSetI, wSkip, wTAnd, wTNot, wTOr, wTru, wTry, wTryF, wTup, wV, wYes, startS, List.length_cons, List.length_nil, List.map_cons, List.map_nil, List.getElem?_cons_zero, List.getElem?_cons_succ, List.set_cons_zero, List.set_cons_succ, List.cons_append, List.nil_append, List.append_nil, List.replicate_succ, List.replicate_zero, Nat.reduceAdd, Nat.reduceSub, ↓reduceIte, Bool.false_eq_true, reduceCtorEq, true_and, and_true, true_or, or_true, false_or, or_false, Bool.not_true, Bool.not_false, Bool.true_and, Bool.false_and, Bool.and_true, decide_eq_true_eq, Bool.not_eq_eq_eq_not, exists_eq_left, exists_eq_left', Option.some.injEq, flat_int, flat_eP]
      refine can_use hs.1 hs.2 ?_
      by_cases c : can g s = true
      · simp only [c, bl?, g2, gAdd, gDiv, gEq, gGe, gGt, gI, gIn, gInt, gIs, gIsNot, gLe, gLen, gList, gLt, gMM, gMod, gMul, gMulS, gNe, gNotIn, gPow, gSorted, gSub, gIadd, gSum, gTuple, puts, sV, sVs, slotM, wAnd, wApp, wAsg, wAug, wAugI, wB, wC, wCall, wCallR, wChain, wCons, wDraw, wDrop, wEnL, wEnT, wExt, wFn, wFnO, wFor, wGCons, wGNil, wGT, wIL, wIT, wIf, wIfS, wIsi, wIx, wLc, wLst, wMNil, wMO, wMV, wMix, wN, wNeg, wNil, wNot, wNotT, wO, wOp, wOr, wOwn, wPar, wR1, wR2, wRaise, wRaiseF, wRet, wSeq, wSet, wSetI, wSkip, wTAnd, wTNot, wTOr, wTru, wTry, wTryF, wTup, wV, wYes, startS, List.length_cons, List.length_nil, List.map_cons, List.map_nil, List.getElem?_cons_zero, List.getElem?_cons_succ, List.set_cons_zero, List.set_cons_succ, List.cons_append, List.nil_append, List.append_nil, List.replicate_succ, List.replicate_zero, Nat.reduceAdd, Nat.reduceSub, ↓reduceIte, Bool.false_eq_true, reduceCtorEq, true_and, and_true, true_or, or_true, false_or, or_false, Bool.not_true, Bool.not_false, Bool.true_and, Bool.false_and, Bool.and_true, decide_eq_true_eq, Bool.not_eq_eq_eq_not, exists_eq_left, exists_eq_left', Option.some.injEq]
        refine beh_use hs.1 hs.2 (hN _ ⟨k + 1, q, beh g s, _, _, rfl, rfl, fun x hx => by rw [beh_len]; exact hq x (List.mem_cons_of_mem _ hx), ?_⟩)
        have e : goneF g (s :: q) k = goneF (beh g s) q (k + 1) := by show (if can g s = true then _ else _) = _; rw [if_pos c]
        rw [e] at hA
        exact hA
      · have c' : can g s = false := by simpa using c
        have e : goneF g (s :: q) k = (g, some k) := by show (if can g s = true then _ else _) = _; rw [if_neg c]
        rw [e] at hA
        simp only [c', bl?, g2, gAdd, gDiv, gEq, gGe, gGt, gI, gIn, gInt, gIs, gIsNot, gLe, gLen, gList, gLt, gMM, gMod, gMul, gMulS, gNe, gNotIn, gPow, gSorted, gSub, gIadd, gSum, gTuple, puts, sV, sVs, slotM, wAnd, wApp, wAsg, wAug, wAugI, wB, wC, wCall, wCallR, wChain, wCons, wDraw, wDrop, wEnL, wEnT, wExt, wFn, wFnO, wFor, wGCons, wGNil, wGT, wIL, wIT, wIf, wIfS, wIsi, wIx, wLc, wLst, wMNil, wMO, wMV, wMix, wN, wNeg, wNil, wNot, wNotT, wO, wOp, wOr, wOwn, wPar, wR1, wR2, wRaise, wRaiseF, wRet, wSeq, wSet, wSetI, wSkip, wTAnd, wTNot, wTOr, wTru, wTry, wTryF, wTup, wV, wYes, startS, List.length_cons, List.length_nil, List.map_cons, List.map_nil, List.getElem?_cons_zero, List.getElem?_cons_succ, List.set_cons_zero, List.set_cons_succ, List.cons_append, List.nil_append, List.append_nil, List.replicate_succ, List.replicate_zero, Nat.reduceAdd, Nat.reduceSub, ↓reduceIte, Bool.false_eq_true, reduceCtorEq, true_and, and_true, true_or, or_true, false_or, or_false, Bool.not_true, Bool.not_false, Bool.true_and, Bool.false_and, Bool.and_true, decide_eq_true_eq, Bool.not_eq_eq_eq_not, exists_eq_left, exists_eq_left', Option.some.injEq]
        exact ⟨by decide, hA⟩
  · rintro S ⟨k, q, g, s2, s3, er, rfl, hq, hA⟩
    cases q with
    | nil =>
      simp only [bl?, g2, gAdd, gDiv, gEq, gGe, gGt, gI, gIn, gInt, gIs, gIsNot, gLe, gLen, gList, gLt, gMM, gMod, gMul, gMulS, gNe, gNotIn, gPow, gSorted, gSub, gIadd, gSum, gTuple, puts, sV, sVs, slotM, wAnd, wApp, wAsg, wAug, wAugI, wB, wC, wCall, wCallR, wChain, wCons, wDraw, wDrop, wEnL, wEnT, wExt, wFn, wFnO, wFor, wGCons, wGNil, wGT, wIL, wIT, wIf, wIfS, wIsi, wIx, wLc, wLst, wMNil, wMO, wMV, wMix, wN, wNeg, wNil, wNot, wNotT, wO, wOp, wOr, wOwn, wPar, wR1, wR2, wRaise, wRaiseF, wRet, wSeq, wSet, wSetI, wSkip, wTAnd, wTNot, wTOr, wTru, wTry, wTryF, wTup, wV, wYes, startS, List.length_cons, List.length_nil, List.map_cons, List.map_nil, List.getElem?_cons_zero, List.getElem?_cons_succ, List.set_cons_zero, List.set_cons_succ, List.cons_append, List.nil_append, List.append_nil, List.replicate_succ, List.replicate_zero, Nat.reduceAdd, Nat.reduceSub, ↓reduceIte, Bool.false_eq_true, reduceCtorEq, true_and, and_true, true_or, or_true, false_or, or_false, Bool.not_true, Bool.not_false, Bool.true_and, Bool.false_and, Bool.and_true, decide_eq_true_eq, Bool.not_eq_eq_eq_not, exists_eq_left, exists_eq_left', Option.some.injEq]
      exact ⟨by decide, hA⟩
    | cons s q => cases er
def sp_check_plan : Spc := fun ds A _ => ∃ h p, ds = [eH h, eL p] ∧ OkH h ∧ OkP h.length p ∧ p.length ≤ 20000 ∧ A .none
def w_check_plan : WS :=
    (wSeq (wDrop (wCall sp_check_heaps (wCons (wV 0) wNil)))
    (wSeq (wIfS (wTOr (wTNot (wB (wIsi "tuple" (wV 1)))) (wB (wOp gGt (wFn gLen (wCons (wV 1) wNil)) (wC (.int 20000))))) (wRaiseF "BadPlan" ["index"] (wCons (wC .none) wNil)) wSkip)
    (wFor (wEnT (wV 1)) (wGT 2 (wGCons (wN 2) (wGCons (wN 3) wGNil))) (wIfS (wTNot (wB (wCall sp_is_step (wCons (wV 3) (wCons (wFn gLen (wCons (wV 0) wNil)) wNil))))) (wRaiseF "BadPlan" ["index"] (wCons (wV 2) wNil)) wSkip))))
theorem len_eL (p : List (Nat × Nat)) : ((p.map eP).length : Int) = p.length := by rw [List.length_map]
theorem len_eH (h : List Int) : ((h.map PyData.int).length : Int) = h.length := by rw [List.length_map]
theorem pure_check_plan : Pure 4 2 sp_check_plan w_check_plan := by
  rintro ds A B - ⟨h, p, rfl, oh, op, hl, hA⟩
  simp only [w_check_plan, bl?, g2, gAdd, gDiv, gEq, gGe, gGt, gI, gIn, gInt, gIs, gIsNot, gLe, gLen, gList, gLt, gMM, gMod, gMul, gMulS, gNe, gNotIn, gPow, gSorted, gSub, gIadd, gSum, gTuple, puts, sV, sVs, slotM, wAnd, wApp, wAsg, wAug, wAugI, wB, wC, wCall, wCallR, wChain, wCons, wDraw, wDrop, wEnL, wEnT, wExt, wFn, wFnO, wFor, wGCons, wGNil, wGT, wIL, wIT, wIf, wIfS, wIsi, wIx, wLc, wLst, wMNil, wMO, wMV, wMix, wN, wNeg, wNil, wNot, wNotT, wO, wOp, wOr, wOwn, wPar, wR1, wR2, wRaise, wRaiseF, wRet, wSeq, wSet, wSetI, wSkip, wTAnd, wTNot, wTOr, wTru, wTry, wTryF, wTup, wV, wYes, startS, List.length_cons, List.length_nil, List.map_cons, List.map_nil, List.getElem?_cons_zero, List.getElem?_cons_succ, List.set_cons_zero, List.set_cons_succ, List.cons_append, List.nil_append, List.append_nil, List.replicate_succ, List.replicate_zero, Nat.reduceAdd, Nat.reduceSub, ↓reduceIte, Bool.false_eq_true, reduceCtorEq, true_and, and_true, true_or, or_true, false_or, or_false, Bool.not_true, Bool.not_false, Bool.true_and, Bool.false_and, Bool.and_true, decide_eq_true_eq, Bool.not_eq_eq_eq_not, exists_eq_left, exists_eq_left', Option.some.injEq, eL]
  refine check_ok oh ?_
  have hl' : ¬ ((20000 : Int) < p.length) := by omega
  simp only [startS, List.length_cons, List.length_nil, List.map_cons, List.map_nil, List.getElem?_cons_zero, List.getElem?_cons_succ, List.set_cons_zero, List.set_cons_succ, List.cons_append, List.nil_append, List.append_nil, List.replicate_succ, List.replicate_zero, Nat.reduceAdd, Nat.reduceSub, ↓reduceIte, Bool.false_eq_true, reduceCtorEq, true_and, and_true, true_or, or_true, false_or, or_false, Bool.not_true, Bool.not_false, Bool.true_and, Bool.false_and, Bool.and_true, decide_eq_true_eq, Bool.not_eq_eq_eq_not, exists_eq_left, exists_eq_left', Option.some.injEq, typ_tup, isT_tt, bl?, g2, gAdd, gDiv, gEq, gGe, gGt, gI, gIn, gInt, gIs, gIsNot, gLe, gLen, gList, gLt, gMM, gMod, gMul, gMulS, gNe, gNotIn, gPow, gSorted, gSub, gIadd, gSum, gTuple, puts, sV, sVs, slotM, wAnd, wApp, wAsg, wAug, wAugI, wB, wC, wCall, wCallR, wChain, wCons, wDraw, wDrop, wEnL, wEnT, wExt, wFn, wFnO, wFor, wGCons, wGNil, wGT, wIL, wIT, wIf, wIfS, wIsi, wIx, wLc, wLst, wMNil, wMO, wMV, wMix, wN, wNeg, wNil, wNot, wNotT, wO, wOp, wOr, wOwn, wPar, wR1, wR2, wRaise, wRaiseF, wRet, wSeq, wSet, wSetI, wSkip, wTAnd, wTNot, wTOr, wTru, wTry, wTryF, wTup, wV, wYes, len_eL, hl', decide_false]
  refine ⟨by decide, for_inv (fun r S => ∃ k q s2 s3, r = enumFr k (q.map eP) ∧ S = [.im (eH h), .im (.tuple (p.map eP)), s2, s3] ∧ OkP h.length q) _ _ ?_ ⟨0, p, _, _, rfl, rfl, op⟩ ?_⟩
  · rintro d r S ⟨k, q, s2, s3, er, rfl, hq⟩ Nx hN
    cases q with
    | nil => cases er
    | cons s q =>
      cases er
      have hs := hq s List.mem_cons_self
      have e : isStepD (eP s) (h.length : Int) = true := by rw [isStep_eP, decide_eq_true hs.1, decide_eq_true hs.2.1, decide_eq_true hs.2.2]; rfl
      simp only [bl?, g2, gAdd, gDiv, gEq, gGe, gGt, gI, gIn, gInt, gIs, gIsNot, gLe, gLen, gList, gLt, gMM, gMod, gMul, gMulS, gNe, gNotIn, gPow, gSorted, gSub, gIadd, gSum, gTuple, puts, sV, sVs, slotM, wAnd, wApp, wAsg, wAug, wAugI, wB, wC, wCall, wCallR, wChain, wCons, wDraw, wDrop, wEnL, wEnT, wExt, wFn, wFnO, wFor, wGCons, wGNil, wGT, wIL, wIT, wIf, wIfS, wIsi, wIx, wLc, wLst, wMNil, wMO, wMV, wMix, wN, wNeg, wNil, wNot, wNotT, wO, wOp, wOr, wOwn, wPar, wR1, wR2, wRaise, wRaiseF, wRet, wSeq, wSet, wSetI, wSkip, wTAnd, wTNot, wTOr, wTru, wTry, wTryF, wTup, wV, wYes, startS, List.length_cons, List.length_nil, List.map_cons, List.map_nil, List.getElem?_cons_zero, List.getElem?_cons_succ, List.set_cons_zero, List.set_cons_succ, List.cons_append, List.nil_append, List.append_nil, List.replicate_succ, List.replicate_zero, Nat.reduceAdd, Nat.reduceSub, ↓reduceIte, Bool.false_eq_true, reduceCtorEq, true_and, and_true, true_or, or_true, false_or, or_false, Bool.not_true, Bool.not_false, Bool.true_and, Bool.false_and, Bool.and_true, decide_eq_true_eq, Bool.not_eq_eq_eq_not, exists_eq_left, exists_eq_left', Option.some.injEq, flat_int, flat_eP, eH, len_eH, sp_is_step_eq, e]
      exact ⟨plain_eP s, hN _ ⟨k + 1, q, _, _, rfl, rfl, fun x hx => hq x (List.mem_cons_of_mem _ hx)⟩⟩
  · rintro S ⟨k, q, s2, s3, er, rfl, hq⟩
    exact hA
def sp_judge : Spc := fun ds A _ => ∃ h p, ds = [eH h, eL p] ∧ OkH h ∧ OkP h.length p ∧ p.length ≤ 20000 ∧ A (eO (goneF h p 0).2)
def w_judge : WS :=
    (wSeq (wDrop (wCall sp_check_plan (wCons (wV 0) (wCons (wV 1) wNil))))
    (wRet (wIx (wCall sp_gone_through (wCons (wV 0) (wCons (wV 1) wNil))) (wC (.int 1)))))
theorem at_1 {x y : PyData} : atD [x, y] 1 = some y := rfl
theorem at_0 {x y : PyData} : atD [x, y] 0 = some x := rfl
theorem pure_judge : Pure 2 2 sp_judge w_judge := by
  rintro ds A B - ⟨h, p, rfl, oh, op, hl, hA⟩
  simp only [w_judge, bl?, g2, gAdd, gDiv, gEq, gGe, gGt, gI, gIn, gInt, gIs, gIsNot, gLe, gLen, gList, gLt, gMM, gMod, gMul, gMulS, gNe, gNotIn, gPow, gSorted, gSub, gIadd, gSum, gTuple, puts, sV, sVs, slotM, wAnd, wApp, wAsg, wAug, wAugI, wB, wC, wCall, wCallR, wChain, wCons, wDraw, wDrop, wEnL, wEnT, wExt, wFn, wFnO, wFor, wGCons, wGNil, wGT, wIL, wIT, wIf, wIfS, wIsi, wIx, wLc, wLst, wMNil, wMO, wMV, wMix, wN, wNeg, wNil, wNot, wNotT, wO, wOp, wOr, wOwn, wPar, wR1, wR2, wRaise, wRaiseF, wRet, wSeq, wSet, wSetI, wSkip, wTAnd, wTNot, wTOr, wTru, wTry, wTryF, wTup, wV, wYes, startS, List.length_cons, List.length_nil, List.map_cons, List.map_nil, List.getElem?_cons_zero, List.getElem?_cons_succ, List.set_cons_zero, List.set_cons_succ, List.cons_append, List.nil_append, List.append_nil, List.replicate_succ, List.replicate_zero, Nat.reduceAdd, Nat.reduceSub, ↓reduceIte, Bool.false_eq_true, reduceCtorEq, true_and, and_true, true_or, or_true, false_or, or_false, Bool.not_true, Bool.not_false, Bool.true_and, Bool.false_and, Bool.and_true, decide_eq_true_eq, Bool.not_eq_eq_eq_not, exists_eq_left, exists_eq_left', Option.some.injEq]
  refine ⟨h, p, rfl, oh, op, hl, h, p, rfl, op.inP, ?_⟩
  simp only [at_1, startS, List.length_cons, List.length_nil, List.map_cons, List.map_nil, List.getElem?_cons_zero, List.getElem?_cons_succ, List.set_cons_zero, List.set_cons_succ, List.cons_append, List.nil_append, List.append_nil, List.replicate_succ, List.replicate_zero, Nat.reduceAdd, Nat.reduceSub, ↓reduceIte, Bool.false_eq_true, reduceCtorEq, true_and, and_true, true_or, or_true, false_or, or_false, Bool.not_true, Bool.not_false, Bool.true_and, Bool.false_and, Bool.and_true, decide_eq_true_eq, Bool.not_eq_eq_eq_not, exists_eq_left, exists_eq_left', Option.some.injEq]
  exact hA
def sp_made : Spc := fun ds A B => ∃ h p, ds = [eH h, eL p] ∧ OkH h ∧ OkP h.length p ∧ p.length ≤ 20000 ∧ ((goneF h p 0).2 = none → A (eH (goneF h p 0).1)) ∧ ∀ k, (goneF h p 0).2 = some k → B ("BadPlan", [("index", .int (k : Int))])
def w_made : WS :=
    (wSeq (wDrop (wCall sp_check_plan (wCons (wV 0) (wCons (wV 1) wNil))))
    (wSeq (wAsg (wCall sp_gone_through (wCons (wV 0) (wCons (wV 1) wNil))) (wGT 2 (wGCons (wN 2) (wGCons (wN 3) wGNil))))
    (wSeq (wIfS (wB (wOp gIsNot (wV 3) (wC .none))) (wRaiseF "BadPlan" ["index"] (wCons (wV 3) wNil)) wSkip)
    (wRet (wV 2)))))
theorem pure_made : Pure 4 2 sp_made w_made := by
  rintro ds A B - ⟨h, p, rfl, oh, op, hl, hA, hB⟩
  simp only [w_made, bl?, g2, gAdd, gDiv, gEq, gGe, gGt, gI, gIn, gInt, gIs, gIsNot, gLe, gLen, gList, gLt, gMM, gMod, gMul, gMulS, gNe, gNotIn, gPow, gSorted, gSub, gIadd, gSum, gTuple, puts, sV, sVs, slotM, wAnd, wApp, wAsg, wAug, wAugI, wB, wC, wCall, wCallR, wChain, wCons, wDraw, wDrop, wEnL, wEnT, wExt, wFn, wFnO, wFor, wGCons, wGNil, wGT, wIL, wIT, wIf, wIfS, wIsi, wIx, wLc, wLst, wMNil, wMO, wMV, wMix, wN, wNeg, wNil, wNot, wNotT, wO, wOp, wOr, wOwn, wPar, wR1, wR2, wRaise, wRaiseF, wRet, wSeq, wSet, wSetI, wSkip, wTAnd, wTNot, wTOr, wTru, wTry, wTryF, wTup, wV, wYes, startS, List.length_cons, List.length_nil, List.map_cons, List.map_nil, List.getElem?_cons_zero, List.getElem?_cons_succ, List.set_cons_zero, List.set_cons_succ, List.cons_append, List.nil_append, List.append_nil, List.replicate_succ, List.replicate_zero, Nat.reduceAdd, Nat.reduceSub, ↓reduceIte, Bool.false_eq_true, reduceCtorEq, true_and, and_true, true_or, or_true, false_or, or_false, Bool.not_true, Bool.not_false, Bool.true_and, Bool.false_and, Bool.and_true, decide_eq_true_eq, Bool.not_eq_eq_eq_not, exists_eq_left, exists_eq_left', Option.some.injEq]
  refine ⟨h, p, rfl, oh, op, hl, h, p, rfl, op.inP, ?_⟩
  simp only [startS, List.length_cons, List.length_nil, List.map_cons, List.map_nil, List.getElem?_cons_zero, List.getElem?_cons_succ, List.set_cons_zero, List.set_cons_succ, List.cons_append, List.nil_append, List.append_nil, List.replicate_succ, List.replicate_zero, Nat.reduceAdd, Nat.reduceSub, ↓reduceIte, Bool.false_eq_true, reduceCtorEq, true_and, and_true, true_or, or_true, false_or, or_false, Bool.not_true, Bool.not_false, Bool.true_and, Bool.false_and, Bool.and_true, decide_eq_true_eq, Bool.not_eq_eq_eq_not, exists_eq_left, exists_eq_left', Option.some.injEq, flat_eH, flat_eO, bl?, g2, gAdd, gDiv, gEq, gGe, gGt, gI, gIn, gInt, gIs, gIsNot, gLe, gLen, gList, gLt, gMM, gMod, gMul, gMulS, gNe, gNotIn, gPow, gSorted, gSub, gIadd, gSum, gTuple, puts, sV, sVs, slotM, wAnd, wApp, wAsg, wAug, wAugI, wB, wC, wCall, wCallR, wChain, wCons, wDraw, wDrop, wEnL, wEnT, wExt, wFn, wFnO, wFor, wGCons, wGNil, wGT, wIL, wIT, wIf, wIfS, wIsi, wIx, wLc, wLst, wMNil, wMO, wMV, wMix, wN, wNeg, wNil, wNot, wNotT, wO, wOp, wOr, wOwn, wPar, wR1, wR2, wRaise, wRaiseF, wRet, wSeq, wSet, wSetI, wSkip, wTAnd, wTNot, wTOr, wTru, wTry, wTryF, wTup, wV, wYes]
  cases e : (goneF h p 0).2 with
  | none =>
    simp only [eO, bl?, g2, gAdd, gDiv, gEq, gGe, gGt, gI, gIn, gInt, gIs, gIsNot, gLe, gLen, gList, gLt, gMM, gMod, gMul, gMulS, gNe, gNotIn, gPow, gSorted, gSub, gIadd, gSum, gTuple, puts, sV, sVs, slotM, wAnd, wApp, wAsg, wAug, wAugI, wB, wC, wCall, wCallR, wChain, wCons, wDraw, wDrop, wEnL, wEnT, wExt, wFn, wFnO, wFor, wGCons, wGNil, wGT, wIL, wIT, wIf, wIfS, wIsi, wIx, wLc, wLst, wMNil, wMO, wMV, wMix, wN, wNeg, wNil, wNot, wNotT, wO, wOp, wOr, wOwn, wPar, wR1, wR2, wRaise, wRaiseF, wRet, wSeq, wSet, wSetI, wSkip, wTAnd, wTNot, wTOr, wTru, wTry, wTryF, wTup, wV, wYes, startS, List.length_cons, List.length_nil, List.map_cons, List.map_nil, List.getElem?_cons_zero, List.getElem?_cons_succ, List.set_cons_zero, List.set_cons_succ, List.cons_append, List.nil_append, List.append_nil, List.replicate_succ, List.replicate_zero, Nat.reduceAdd, Nat.reduceSub, ↓reduceIte, Bool.false_eq_true, reduceCtorEq, true_and, and_true, true_or, or_true, false_or, or_false, Bool.not_true, Bool.not_false, Bool.true_and, Bool.false_and, Bool.and_true, decide_eq_true_eq, Bool.not_eq_eq_eq_not, exists_eq_left, exists_eq_left', Option.some.injEq]
    exact hA e
  | some k =>
    simp only [eO, bl?, g2, gAdd, gDiv, gEq, gGe, gGt, gI, gIn, gInt, gIs, gIsNot, gLe, gLen, gList, gLt, gMM, gMod, gMul, gMulS, gNe, gNotIn, gPow, gSorted, gSub, gIadd, gSum, gTuple, puts, sV, sVs, slotM, wAnd, wApp, wAsg, wAug, wAugI, wB, wC, wCall, wCallR, wChain, wCons, wDraw, wDrop, wEnL, wEnT, wExt, wFn, wFnO, wFor, wGCons, wGNil, wGT, wIL, wIT, wIf, wIfS, wIsi, wIx, wLc, wLst, wMNil, wMO, wMV, wMix, wN, wNeg, wNil, wNot, wNotT, wO, wOp, wOr, wOwn, wPar, wR1, wR2, wRaise, wRaiseF, wRet, wSeq, wSet, wSetI, wSkip, wTAnd, wTNot, wTOr, wTru, wTry, wTryF, wTup, wV, wYes, startS, List.length_cons, List.length_nil, List.map_cons, List.map_nil, List.getElem?_cons_zero, List.getElem?_cons_succ, List.set_cons_zero, List.set_cons_succ, List.cons_append, List.nil_append, List.append_nil, List.replicate_succ, List.replicate_zero, Nat.reduceAdd, Nat.reduceSub, ↓reduceIte, Bool.false_eq_true, reduceCtorEq, true_and, and_true, true_or, or_true, false_or, or_false, Bool.not_true, Bool.not_false, Bool.true_and, Bool.false_and, Bool.and_true, decide_eq_true_eq, Bool.not_eq_eq_eq_not, exists_eq_left, exists_eq_left', Option.some.injEq]
    exact hB k e

/-! ### the law's own defs -/
def sp_law_can : Spc := sp_can_be_made
def w_law_can : WS :=
    (wRet (wChain gLt gLe (wC (.int 0)) (wIx (wV 0) (wIx (wV 1) (wC (.int 1)))) (wIx (wV 0) (wIx (wV 1) (wC (.int 0))))))
theorem pure_law_can : Pure 2 2 sp_law_can w_law_can := by
  rintro ds A B - ⟨h, ⟨i, j⟩, rfl, hi, hj, hA⟩
  have hi : i < h.length := hi
  have hj : j < h.length := hj
  simp only [w_law_can, bl?, g2, gAdd, gDiv, gEq, gGe, gGt, gI, gIn, gInt, gIs, gIsNot, gLe, gLen, gList, gLt, gMM, gMod, gMul, gMulS, gNe, gNotIn, gPow, gSorted, gSub, gIadd, gSum, gTuple, puts, sV, sVs, slotM, wAnd, wApp, wAsg, wAug, wAugI, wB, wC, wCall, wCallR, wChain, wCons, wDraw, wDrop, wEnL, wEnT, wExt, wFn, wFnO, wFor, wGCons, wGNil, wGT, wIL, wIT, wIf, wIfS, wIsi, wIx, wLc, wLst, wMNil, wMO, wMV, wMix, wN, wNeg, wNil, wNot, wNotT, wO, wOp, wOr, wOwn, wPar, wR1, wR2, wRaise, wRaiseF, wRet, wSeq, wSet, wSetI, wSkip, wTAnd, wTNot, wTOr, wTru, wTry, wTryF, wTup, wV, wYes, startS, List.length_cons, List.length_nil, List.map_cons, List.map_nil, List.getElem?_cons_zero, List.getElem?_cons_succ, List.set_cons_zero, List.set_cons_succ, List.cons_append, List.nil_append, List.append_nil, List.replicate_succ, List.replicate_zero, Nat.reduceAdd, Nat.reduceSub, ↓reduceIte, Bool.false_eq_true, reduceCtorEq, true_and, and_true, true_or, or_true, false_or, or_false, Bool.not_true, Bool.not_false, Bool.true_and, Bool.false_and, Bool.and_true, decide_eq_true_eq, Bool.not_eq_eq_eq_not, exists_eq_left, exists_eq_left', Option.some.injEq, eH, eP, at_0, at_1, at_gt hi, at_gt hj, flat_int]
  exact if_dec (A := fun b => A (.bool b)) hA
def sp_law_behind : Spc := sp_behind
def w_law_behind : WS :=
    (wSeq (wOwn 2 (wFnO gList (wCons (wV 0) wNil)))
    (wSeq (wSetI 2 (wOp gSub (wIx (wV 2) (wIx (wV 1) (wC (.int 0)))) (wIx (wV 0) (wIx (wV 1) (wC (.int 1))))) (wIx (wV 1) (wC (.int 0))))
    (wSeq (wSetI 2 (wOp gAdd (wIx (wV 2) (wIx (wV 1) (wC (.int 1)))) (wIx (wV 0) (wIx (wV 1) (wC (.int 1))))) (wIx (wV 1) (wC (.int 1))))
    (wRet (wFn gTuple (wCons (wV 2) wNil))))))
theorem pure_law_behind : Pure 3 2 sp_law_behind w_law_behind := by
  rintro ds A B - ⟨h, ⟨i, j⟩, rfl, hi, hj, hA⟩
  have hi : i < h.length := hi
  have hj : j < h.length := hj
  have hj' : j < (h.set i (gt h i - gt h j)).length := by rw [List.length_set]; exact hj
  simp only [w_law_behind, bl?, g2, gAdd, gDiv, gEq, gGe, gGt, gI, gIn, gInt, gIs, gIsNot, gLe, gLen, gList, gLt, gMM, gMod, gMul, gMulS, gNe, gNotIn, gPow, gSorted, gSub, gIadd, gSum, gTuple, puts, sV, sVs, slotM, wAnd, wApp, wAsg, wAug, wAugI, wB, wC, wCall, wCallR, wChain, wCons, wDraw, wDrop, wEnL, wEnT, wExt, wFn, wFnO, wFor, wGCons, wGNil, wGT, wIL, wIT, wIf, wIfS, wIsi, wIx, wLc, wLst, wMNil, wMO, wMV, wMix, wN, wNeg, wNil, wNot, wNotT, wO, wOp, wOr, wOwn, wPar, wR1, wR2, wRaise, wRaiseF, wRet, wSeq, wSet, wSetI, wSkip, wTAnd, wTNot, wTOr, wTru, wTry, wTryF, wTup, wV, wYes, startS, List.length_cons, List.length_nil, List.map_cons, List.map_nil, List.getElem?_cons_zero, List.getElem?_cons_succ, List.set_cons_zero, List.set_cons_succ, List.cons_append, List.nil_append, List.append_nil, List.replicate_succ, List.replicate_zero, Nat.reduceAdd, Nat.reduceSub, ↓reduceIte, Bool.false_eq_true, reduceCtorEq, true_and, and_true, true_or, or_true, false_or, or_false, Bool.not_true, Bool.not_false, Bool.true_and, Bool.false_and, Bool.and_true, decide_eq_true_eq, Bool.not_eq_eq_eq_not, exists_eq_left, exists_eq_left', Option.some.injEq, eH, eP, at_0, at_1, at_gt hi, at_gt hj, flat_int, flat_ints, List.length_map, ixN_nat hi, map_set_int, at_gt hj', ixN_nat hj', nat_le]
  exact ⟨⟨_, rfl⟩, ⟨_, rfl⟩, hA⟩
/-- all pairs of two different ones -/
def pairsOf (n : Nat) : List (Nat × Nat) := (List.range n).flatMap fun i => ((List.range n).filter fun j => decide (j ≠ i)).map fun j => (i, j)
theorem pairs_ok {n : Nat} : OkP n (pairsOf n) := fun s hs => by
  unfold pairsOf at hs
  obtain ⟨i, hi, hs⟩ := List.mem_flatMap.mp hs
  obtain ⟨j, hj, rfl⟩ := List.mem_map.mp hs
  obtain ⟨hj, hn⟩ := List.mem_filter.mp hj
  exact ⟨List.mem_range.mp hi, List.mem_range.mp hj, fun e => of_decide_eq_true hn e.symm⟩
theorem pairs_len : ∀ n, n ≤ 6 → (pairsOf n).length = n * (n - 1) := by decide
def sp_law_pairs : Spc := fun ds A _ => ∃ n : Nat, ds = [.int n] ∧ n ≤ 6 ∧ A (.list ((pairsOf n).map eP))
def w_law_pairs : WS :=
    (wSeq (wSet 1 (wO (wLst wNil)))
    (wSeq (wFor (wR1 (wCons (wV 0) wNil)) (wN 2) (wSet 1 (wOp gAdd (wV 1) (wO (wLc (wR1 (wCons (wV 0) wNil)) (wN 3) (wB (wOp gNe (wV 3) (wV 2))) (wTup (wCons (wV 2) (wCons (wV 3) wNil))) [3])))))
    (wRet (wV 1))))
def pairsTo (n k : Nat) : List (Nat × Nat) := (List.range k).flatMap fun i => ((List.range n).filter fun j => decide (j ≠ i)).map fun j => (i, j)
theorem pairsTo_succ (n k : Nat) : pairsTo n (k + 1) = pairsTo n k ++ ((List.range n).filter fun j => decide (j ≠ k)).map fun j => (k, j) := by
  unfold pairsTo
  rw [List.range_succ, List.flatMap_append]
  simp
theorem pairsTo_le (n : Nat) : ∀ k, (pairsTo n k).length ≤ n * k
  | 0 => by simp [pairsTo]
  | k + 1 => by
    have h1 := pairsTo_le n k
    have h2 := List.length_filter_le (fun j => decide (j ≠ k)) (List.range n)
    rw [List.length_range] at h2
    rw [pairsTo_succ, List.length_append, List.length_map, Nat.mul_succ]
    omega
theorem range_small {n : Nat} (h : n ≤ 6) : -(2 : Int) ^ 62 ≤ (n : Int) ∧ (n : Int) < 2 ^ 62 := by
  have : (2 : Int) ^ 62 = 4611686018427387904 := by decide
  omega
theorem pure_law_pairs : Pure 4 1 sp_law_pairs w_law_pairs := by
  rintro ds A B - ⟨n, rfl, hn, hA⟩
  simp only [w_law_pairs, bl?, g2, gAdd, gDiv, gEq, gGe, gGt, gI, gIn, gInt, gIs, gIsNot, gLe, gLen, gList, gLt, gMM, gMod, gMul, gMulS, gNe, gNotIn, gPow, gSorted, gSub, gIadd, gSum, gTuple, puts, sV, sVs, slotM, wAnd, wApp, wAsg, wAug, wAugI, wB, wC, wCall, wCallR, wChain, wCons, wDraw, wDrop, wEnL, wEnT, wExt, wFn, wFnO, wFor, wGCons, wGNil, wGT, wIL, wIT, wIf, wIfS, wIsi, wIx, wLc, wLst, wMNil, wMO, wMV, wMix, wN, wNeg, wNil, wNot, wNotT, wO, wOp, wOr, wOwn, wPar, wR1, wR2, wRaise, wRaiseF, wRet, wSeq, wSet, wSetI, wSkip, wTAnd, wTNot, wTOr, wTru, wTry, wTryF, wTup, wV, wYes, startS, List.length_cons, List.length_nil, List.map_cons, List.map_nil, List.getElem?_cons_zero, List.getElem?_cons_succ, List.set_cons_zero, List.set_cons_succ, List.cons_append, List.nil_append, List.append_nil, List.replicate_succ, List.replicate_zero, Nat.reduceAdd, Nat.reduceSub, ↓reduceIte, Bool.false_eq_true, reduceCtorEq, true_and, and_true, true_or, or_true, false_or, or_false, Bool.not_true, Bool.not_false, Bool.true_and, Bool.false_and, Bool.and_true, decide_eq_true_eq, Bool.not_eq_eq_eq_not, exists_eq_left, exists_eq_left', Option.some.injEq]
  refine ⟨by decide, (range_small hn).1, (range_small hn).2, ?_⟩
  rw [rangeD0, Int.toNat_natCast]
  refine for_inv (fun r S => ∃ k s2 s3, k ≤ n ∧ r = ((List.range n).drop k).map (fun (i : Nat) => PyData.int (i : Int)) ∧ S = [.im (.int n), .im (.list ((pairsTo n k).map eP)), s2, s3] ∧ notRng (some s3) = true) _ _ ?_ ⟨0, .un, .un, Nat.zero_le _, by simp, by simp [pairsTo], rfl⟩ ?_
  · rintro d r S ⟨k, s2, s3, hk, er, rfl, hs3⟩ Nx hN
    have hk' : k < n := by
      rcases Nat.lt_or_ge k n with c | c
      · exact c
      · rw [List.drop_eq_nil_of_le (by rw [List.length_range]; exact c)] at er
        cases er
    rw [List.drop_eq_getElem_cons (by rw [List.length_range]; exact hk'), List.getElem_range, List.map_cons] at er
    cases er
    simp only [bl?, g2, gAdd, gDiv, gEq, gGe, gGt, gI, gIn, gInt, gIs, gIsNot, gLe, gLen, gList, gLt, gMM, gMod, gMul, gMulS, gNe, gNotIn, gPow, gSorted, gSub, gIadd, gSum, gTuple, puts, sV, sVs, slotM, wAnd, wApp, wAsg, wAug, wAugI, wB, wC, wCall, wCallR, wChain, wCons, wDraw, wDrop, wEnL, wEnT, wExt, wFn, wFnO, wFor, wGCons, wGNil, wGT, wIL, wIT, wIf, wIfS, wIsi, wIx, wLc, wLst, wMNil, wMO, wMV, wMix, wN, wNeg, wNil, wNot, wNotT, wO, wOp, wOr, wOwn, wPar, wR1, wR2, wRaise, wRaiseF, wRet, wSeq, wSet, wSetI, wSkip, wTAnd, wTNot, wTOr, wTru, wTry, wTryF, wTup, wV, wYes, startS, List.length_cons, List.length_nil, List.map_cons, List.map_nil, List.getElem?_cons_zero, List.getElem?_cons_succ, List.set_cons_zero, List.set_cons_succ, List.cons_append, List.nil_append, List.append_nil, List.replicate_succ, List.replicate_zero, Nat.reduceAdd, Nat.reduceSub, ↓reduceIte, Bool.false_eq_true, reduceCtorEq, true_and, and_true, true_or, or_true, false_or, or_false, Bool.not_true, Bool.not_false, Bool.true_and, Bool.false_and, Bool.and_true, decide_eq_true_eq, Bool.not_eq_eq_eq_not, exists_eq_left, exists_eq_left', Option.some.injEq, flat_int, List.all_cons, List.all_nil, hs3]
    refine ⟨(range_small hn).1, (range_small hn).2, ?_⟩
    rw [rangeD0, Int.toNat_natCast]
    refine lc_ok (fun (i : Nat) => PyData.int (i : Int)) (fun j => decide (j ≠ k)) (fun j => eP (k, j)) (List.range n) [] True (fun j hj Yes No hy hno => ?_) (by rw [List.length_range]; simp; omega) trivial fun c' hc' => ?_
    · simp only [bl?, g2, gAdd, gDiv, gEq, gGe, gGt, gI, gIn, gInt, gIs, gIsNot, gLe, gLen, gList, gLt, gMM, gMod, gMul, gMulS, gNe, gNotIn, gPow, gSorted, gSub, gIadd, gSum, gTuple, puts, sV, sVs, slotM, wAnd, wApp, wAsg, wAug, wAugI, wB, wC, wCall, wCallR, wChain, wCons, wDraw, wDrop, wEnL, wEnT, wExt, wFn, wFnO, wFor, wGCons, wGNil, wGT, wIL, wIT, wIf, wIfS, wIsi, wIx, wLc, wLst, wMNil, wMO, wMV, wMix, wN, wNeg, wNil, wNot, wNotT, wO, wOp, wOr, wOwn, wPar, wR1, wR2, wRaise, wRaiseF, wRet, wSeq, wSet, wSetI, wSkip, wTAnd, wTNot, wTOr, wTru, wTry, wTryF, wTup, wV, wYes, startS, List.length_cons, List.length_nil, List.map_cons, List.map_nil, List.getElem?_cons_zero, List.getElem?_cons_succ, List.set_cons_zero, List.set_cons_succ, List.cons_append, List.nil_append, List.append_nil, List.replicate_succ, List.replicate_zero, Nat.reduceAdd, Nat.reduceSub, ↓reduceIte, Bool.false_eq_true, reduceCtorEq, true_and, and_true, true_or, or_true, false_or, or_false, Bool.not_true, Bool.not_false, Bool.true_and, Bool.false_and, Bool.and_true, decide_eq_true_eq, Bool.not_eq_eq_eq_not, exists_eq_left, exists_eq_left', Option.some.injEq, wipeS, flat_int, shaped_int, eqv_int]
      by_cases c : j = k
      · subst c
        simpa using hno (by simp)
      · have c' : ¬ ((j : Int) = k) := by omega
        simp [c']
        exact ⟨by decide, hy (by simpa using c)⟩
    · have hlen : (pairsTo n k).length + ((List.range n).filter fun j => decide (j ≠ k)).length ≤ sizeLine := by
        have h1 := pairsTo_le n k
        have h2 := List.length_filter_le (fun j => decide (j ≠ k)) (List.range n)
        rw [List.length_range] at h2
        have h3 : n * k ≤ 6 * 6 := Nat.mul_le_mul hn (by omega)
        rw [sizeLine_eq]
        omega
      have hf : flats ([] ++ (List.filter (fun j => decide (j ≠ k)) (List.range n)).map fun j => eP (k, j)) = true := by
        rw [List.nil_append]
        exact flats_map (fun j => flat_eP _) _
      refine ⟨by simpa using hlen, .inl (.inr hf), hN _ ⟨k + 1, .im (.int (k : Int)), s3, hk', rfl, ?_, hs3⟩⟩
      rw [pairsTo_succ]
      simp [List.map_append, Function.comp_def]
  · rintro S ⟨k, s2, s3, hk, er, rfl, hs3⟩
    have hk' : k = n := by
      rcases Nat.lt_or_ge k n with c | c
      · rw [List.drop_eq_getElem_cons (by rw [List.length_range]; exact c)] at er
        cases er
      · omega
    subst hk'
    exact hA

/-! the heaps that are drawn -/
theorem lc_each {wg : WTg} {wt : WTx} {we : WEx} {c : Prop} {S : Slots} {K : List PyData → Prop → Prop} (Q : PyData → Prop) : ∀ (ds acc : List PyData) (ca : Prop),
    (∀ d ∈ ds, ∀ Yes : PyData → Prop → Prop, (∀ e, Q e → Yes e True) → ∀ No : Prop, wg d c S fun S1 => wt S1 (fun b S2 => S2 = S1 ∧ if b = true then we S1 (fun e ce S3 => S3 = S1 ∧ Yes e ce) noX else No) noX) →
    acc.length + ds.length ≤ 1000000 → ca → (∀ (zs : List PyData) (c' : Prop), zs.length = ds.length → (∀ z ∈ zs, Q z) → c' → K (acc ++ zs) c') → lcL wg wt we c S ds acc ca K
  | [], acc, ca, _, _, hc, hK => by
    have q := hK [] ca rfl (fun z h => by cases h) hc
    rw [List.append_nil] at q
    exact q
  | d :: ds, acc, ca, h, hl, hc, hK => by
    rw [List.length_cons] at hl
    show wg d c S fun S1 => wt S1 (fun b S2 => S2 = S1 ∧ if b = true then we S1 (fun e ce S3 => S3 = S1 ∧ acc.length < sizeLine ∧ lcL wg wt we c S ds (acc ++ [e]) (ca ∧ (ce ∨ flat e = true)) K) noX else lcL wg wt we c S ds acc ca K) noX
    refine h d List.mem_cons_self (fun e ce => acc.length < sizeLine ∧ lcL wg wt we c S ds (acc ++ [e]) (ca ∧ (ce ∨ flat e = true)) K) (fun e he => ⟨by rw [sizeLine_eq]; omega, ?_⟩) _
    refine lc_each Q ds _ _ (fun x hx => h x (List.mem_cons_of_mem _ hx)) (by rw [List.length_append]; show acc.length + 1 + ds.length ≤ _; omega) ⟨hc, .inl trivial⟩ fun zs c' hz hq hc' => ?_
    have q := hK (e :: zs) c' (by rw [List.length_cons, List.length_cons, hz]) (fun z hz => by
      rcases List.mem_cons.mp hz with k | k
      · rw [k]; exact he
      · exact hq z k) hc'
    rw [List.append_assoc]
    exact q
theorem ints_all : ∀ {zs : List PyData} {P : Int → Prop}, (∀ z ∈ zs, ∃ i, z = .int i ∧ P i) → ∃ ns : List Int, zs = ns.map .int ∧ ∀ n ∈ ns, P n
  | [], P, _ => ⟨[], rfl, fun n h => by cases h⟩
  | z :: zs, P, h => by
    obtain ⟨i, rfl, hi⟩ := h z List.mem_cons_self
    obtain ⟨ns, rfl, hn⟩ := ints_all (zs := zs) fun x hx => h x (List.mem_cons_of_mem _ hx)
    exact ⟨i :: ns, rfl, fun n hm => by
      rcases List.mem_cons.mp hm with k | k
      · rw [k]; exact hi
      · exact hn n k⟩
def sp_law_heaps : Spc := fun ds A _ => ∃ lo hi : Nat, ds = [.int lo, .int hi] ∧ 2 ≤ lo ∧ lo ≤ hi ∧ hi ≤ 6 ∧ ∀ h, OkH h → lo ≤ h.length → h.length ≤ hi → A (eH h)
def w_law_heaps : WS :=
    (wSeq (wSet 3 (wOp gAdd (wV 1) (wDraw 0 (wOp gAdd (wOp gSub (wV 2) (wV 1)) (wC (.int 1))))))
    (wSeq (wSet 4 (wIx (wO (wLst (wCons (wC (.int 4)) (wCons (wC (.int 9)) (wCons (wC (.int 60)) (wCons (wOp gPow (wC (.int 10)) (wC (.int 15))) (wCons (wOp gPow (wC (.int 10)) (wC (.int 29))) wNil))))))) (wDraw 0 (wC (.int 5)))))
    (wSeq (wSet 5 (wIx (wO (wLst (wCons (wC (.int 1)) (wCons (wC (.int 1)) (wCons (wC (.int 2)) (wCons (wC (.int 3)) (wCons (wC (.int 8)) wNil))))))) (wDraw 0 (wC (.int 5)))))
    (wSeq (wOwn 6 (wLc (wR1 (wCons (wV 3) wNil)) (wN 7) wYes (wOp gMul (wV 5) (wDraw 0 (wV 4))) [7]))
    (wSeq (wIfS (wB (wOp gEq (wFn (gMM max) (wCons (wV 6) wNil)) (wC (.int 0)))) (wSetI 6 (wV 5) (wDraw 0 (wV 3))) wSkip)
    (wRet (wFn gTuple (wCons (wV 6) wNil))))))))
theorem atD_nat {xs : List PyData} {i : Nat} {d : PyData} (h : xs[i]? = some d) : atD xs (i : Int) = some d := by
  unfold atD ixN
  have hi := (List.getElem?_eq_some_iff.mp h).1
  rw [if_pos (by omega), if_pos (by omega)]
  show xs[(i : Int).toNat]? = some d
  rw [Int.toNat_natCast]
  exact h
theorem far_of {r : Int} (h0 : 0 ≤ r) (h5 : r < 5) : ∃ z : Int, atD [.int 4, .int 9, .int 60, .int ((10 : Int) ^ (15 : Int).toNat), .int ((10 : Int) ^ (29 : Int).toNat)] r = some (.int z) ∧ 1 ≤ z ∧ z ≤ 100000000000000000000000000000 := by
  have e : r = 0 ∨ r = 1 ∨ r = 2 ∨ r = 3 ∨ r = 4 := by omega
  rcases e with e | e | e | e | e <;> subst e <;> exact ⟨_, rfl, by decide, by decide⟩
theorem part_of {r : Int} (h0 : 0 ≤ r) (h5 : r < 5) : ∃ z : Int, atD [.int 1, .int 1, .int 2, .int 3, .int 8] r = some (.int z) ∧ 1 ≤ z ∧ z ≤ 8 := by
  have e : r = 0 ∨ r = 1 ∨ r = 2 ∨ r = 3 ∨ r = 4 := by omega
  rcases e with e | e | e | e | e <;> subst e <;> exact ⟨_, rfl, by decide, by decide⟩
theorem mul_small {i j : Int} (h1 : 0 ≤ i) (h2 : i ≤ 8) (h3 : 0 ≤ j) (h4 : j ≤ 100000000000000000000000000000) : CMulW i j := by
  refine wide_mul (a := 10) (b := 110) ?_ ?_ (by decide) (by decide) (by decide)
  · have : (2 : Nat) ^ 10 = 1024 := by decide
    omega
  · have : (2 : Nat) ^ 110 = 1298074214633706907132624082305024 := by decide
    omega
theorem pure_law_heaps : PureR 7 2 sp_law_heaps w_law_heaps := by
  rintro ds A B a c - ⟨lo, hi, rfl, l2, llh, l6, hA⟩
  have e31 : (10 : Int) ^ 31 = 10000000000000000000000000000000 := by decide
  have p1 : CPow 10 15 := ⟨by decide, by decide, by decide⟩
  have p2 : CPow 10 29 := ⟨by decide, by decide, by decide⟩
  simp only [w_law_heaps, bl?, g2, gAdd, gDiv, gEq, gGe, gGt, gI, gIn, gInt, gIs, gIsNot, gLe, gLen, gList, gLt, gMM, gMod, gMul, gMulS, gNe, gNotIn, gPow, gSorted, gSub, gIadd, gSum, gTuple, puts, sV, sVs, slotM, wAnd, wApp, wAsg, wAug, wAugI, wB, wC, wCall, wCallR, wChain, wCons, wDraw, wDrop, wEnL, wEnT, wExt, wFn, wFnO, wFor, wGCons, wGNil, wGT, wIL, wIT, wIf, wIfS, wIsi, wIx, wLc, wLst, wMNil, wMO, wMV, wMix, wN, wNeg, wNil, wNot, wNotT, wO, wOp, wOr, wOwn, wPar, wR1, wR2, wRaise, wRaiseF, wRet, wSeq, wSet, wSetI, wSkip, wTAnd, wTNot, wTOr, wTru, wTry, wTryF, wTup, wV, wYes, startS, List.length_cons, List.length_nil, List.map_cons, List.map_nil, List.getElem?_cons_zero, List.getElem?_cons_succ, List.set_cons_zero, List.set_cons_succ, List.cons_append, List.nil_append, List.append_nil, List.replicate_succ, List.replicate_zero, Nat.reduceAdd, Nat.reduceSub, ↓reduceIte, Bool.false_eq_true, reduceCtorEq, true_and, and_true, true_or, or_true, false_or, or_false, Bool.not_true, Bool.not_false, Bool.true_and, Bool.false_and, Bool.and_true, decide_eq_true_eq, Bool.not_eq_eq_eq_not, exists_eq_left, exists_eq_left', Option.some.injEq]
  refine ⟨a, c, rfl, rfl, by omega, by rw [e31]; omega, fun r r0 r1 => ?_⟩
  obtain ⟨n, hn⟩ : ∃ n : Nat, (lo : Int) + r = n := ⟨((lo : Int) + r).toNat, by omega⟩
  simp only [hn]
  have n2 : lo ≤ n := by omega
  have n6 : n ≤ hi := by omega
  refine ⟨p1, p2, by decide, a, c, rfl, rfl, by decide, by rw [e31]; decide, fun r r0 r1 => ?_⟩
  obtain ⟨far, ef, f1, f2⟩ := far_of r0 r1
  simp only [ef, startS, List.length_cons, List.length_nil, List.map_cons, List.map_nil, List.getElem?_cons_zero, List.getElem?_cons_succ, List.set_cons_zero, List.set_cons_succ, List.cons_append, List.nil_append, List.append_nil, List.replicate_succ, List.replicate_zero, Nat.reduceAdd, Nat.reduceSub, ↓reduceIte, Bool.false_eq_true, reduceCtorEq, true_and, and_true, true_or, or_true, false_or, or_false, Bool.not_true, Bool.not_false, Bool.true_and, Bool.false_and, Bool.and_true, decide_eq_true_eq, Bool.not_eq_eq_eq_not, exists_eq_left, exists_eq_left', Option.some.injEq, flat_int]
  refine ⟨by decide, a, c, rfl, rfl, by decide, by rw [e31]; decide, fun r r0 r1 => ?_⟩
  obtain ⟨part, ep, g1, g2⟩ := part_of r0 r1
  simp only [ep, startS, List.length_cons, List.length_nil, List.map_cons, List.map_nil, List.getElem?_cons_zero, List.getElem?_cons_succ, List.set_cons_zero, List.set_cons_succ, List.cons_append, List.nil_append, List.append_nil, List.replicate_succ, List.replicate_zero, Nat.reduceAdd, Nat.reduceSub, ↓reduceIte, Bool.false_eq_true, reduceCtorEq, true_and, and_true, true_or, or_true, false_or, or_false, Bool.not_true, Bool.not_false, Bool.true_and, Bool.false_and, Bool.and_true, decide_eq_true_eq, Bool.not_eq_eq_eq_not, exists_eq_left, exists_eq_left', Option.some.injEq, flat_int]
  refine ⟨(range_small (by omega)).1, (range_small (by omega)).2, by simp [notRng], ?_⟩
  rw [rangeD0, Int.toNat_natCast]
  refine lc_each (fun d => ∃ i, d = .int i ∧ 0 ≤ i ∧ i ≤ 8 * 100000000000000000000000000000) _ [] True (fun d hd Yes hy No => ?_) (by simp; omega) trivial fun zs c' hz hq hc' => ?_
  · obtain ⟨i, _, rfl⟩ := List.mem_map.mp hd
    simp only [bl?, g2, gAdd, gDiv, gEq, gGe, gGt, gI, gIn, gInt, gIs, gIsNot, gLe, gLen, gList, gLt, gMM, gMod, gMul, gMulS, gNe, gNotIn, gPow, gSorted, gSub, gIadd, gSum, gTuple, puts, sV, sVs, slotM, wAnd, wApp, wAsg, wAug, wAugI, wB, wC, wCall, wCallR, wChain, wCons, wDraw, wDrop, wEnL, wEnT, wExt, wFn, wFnO, wFor, wGCons, wGNil, wGT, wIL, wIT, wIf, wIfS, wIsi, wIx, wLc, wLst, wMNil, wMO, wMV, wMix, wN, wNeg, wNil, wNot, wNotT, wO, wOp, wOr, wOwn, wPar, wR1, wR2, wRaise, wRaiseF, wRet, wSeq, wSet, wSetI, wSkip, wTAnd, wTNot, wTOr, wTru, wTry, wTryF, wTup, wV, wYes, startS, List.length_cons, List.length_nil, List.map_cons, List.map_nil, List.getElem?_cons_zero, List.getElem?_cons_succ, List.set_cons_zero, List.set_cons_succ, List.cons_append, List.nil_append, List.append_nil, List.replicate_succ, List.replicate_zero, Nat.reduceAdd, Nat.reduceSub, ↓reduceIte, Bool.false_eq_true, reduceCtorEq, true_and, and_true, true_or, or_true, false_or, or_false, Bool.not_true, Bool.not_false, Bool.true_and, Bool.false_and, Bool.and_true, decide_eq_true_eq, Bool.not_eq_eq_eq_not, exists_eq_left, exists_eq_left', Option.some.injEq, wipeS, flat_int]
    refine ⟨a, c, rfl, rfl, f1, by rw [e31]; omega, fun r r0 r1 => ⟨mul_small (by omega) g2 r0 (by omega), hy _ ⟨_, rfl, Int.mul_nonneg (by omega) r0, Int.mul_le_mul g2 (by omega) r0 (by omega)⟩⟩⟩
  · obtain ⟨ns, rfl, hns⟩ := ints_all hq
    rw [List.nil_append]
    rw [List.length_map, List.length_map, List.length_range] at hz
    have hne : ∃ x xs, ns = x :: xs := by
      cases ns with
      | nil => simp at hz; omega
      | cons x xs => exact ⟨x, xs, rfl⟩
    obtain ⟨x, xs, ens⟩ := hne
    simp only [bl?, g2, gAdd, gDiv, gEq, gGe, gGt, gI, gIn, gInt, gIs, gIsNot, gLe, gLen, gList, gLt, gMM, gMod, gMul, gMulS, gNe, gNotIn, gPow, gSorted, gSub, gIadd, gSum, gTuple, puts, sV, sVs, slotM, wAnd, wApp, wAsg, wAug, wAugI, wB, wC, wCall, wCallR, wChain, wCons, wDraw, wDrop, wEnL, wEnT, wExt, wFn, wFnO, wFor, wGCons, wGNil, wGT, wIL, wIT, wIf, wIfS, wIsi, wIx, wLc, wLst, wMNil, wMO, wMV, wMix, wN, wNeg, wNil, wNot, wNotT, wO, wOp, wOr, wOwn, wPar, wR1, wR2, wRaise, wRaiseF, wRet, wSeq, wSet, wSetI, wSkip, wTAnd, wTNot, wTOr, wTru, wTry, wTryF, wTup, wV, wYes, startS, List.length_cons, List.length_nil, List.map_cons, List.map_nil, List.getElem?_cons_zero, List.getElem?_cons_succ, List.set_cons_zero, List.set_cons_succ, List.cons_append, List.nil_append, List.append_nil, List.replicate_succ, List.replicate_zero, Nat.reduceAdd, Nat.reduceSub, ↓reduceIte, Bool.false_eq_true, reduceCtorEq, true_and, and_true, true_or, or_true, false_or, or_false, Bool.not_true, Bool.not_false, Bool.true_and, Bool.false_and, Bool.and_true, decide_eq_true_eq, Bool.not_eq_eq_eq_not, exists_eq_left, exists_eq_left', Option.some.injEq, flat_ints]
    refine ⟨x, xs, by rw [ens]; exact ints?_map (x :: xs), shaped_int _, shaped_int _, ?_⟩
    rw [eqv_int]
    obtain ⟨g1', g2'⟩ := fold_max_ge xs x
    have hm : ∀ y ∈ ns, y ≤ xs.foldl max x := fun y hy => by
      rw [ens] at hy
      rcases List.mem_cons.mp hy with z | z
      · rw [z]; exact g1'
      · exact g2' y z
    by_cases c0 : xs.foldl max x = 0
    · rw [if_pos (decide_eq_true c0)]
      refine ⟨⟨_, rfl⟩, a, c, rfl, rfl, by omega, by rw [e31]; omega, fun r r0 r1 => ?_⟩
      obtain ⟨j, rfl⟩ := Int.eq_ofNat_of_zero_le r0
      have hj : j < ns.length := by omega
      simp only [startS, List.length_cons, List.length_nil, List.map_cons, List.map_nil, List.getElem?_cons_zero, List.getElem?_cons_succ, List.set_cons_zero, List.set_cons_succ, List.cons_append, List.nil_append, List.append_nil, List.replicate_succ, List.replicate_zero, Nat.reduceAdd, Nat.reduceSub, ↓reduceIte, Bool.false_eq_true, reduceCtorEq, true_and, and_true, true_or, or_true, false_or, or_false, Bool.not_true, Bool.not_false, Bool.true_and, Bool.false_and, Bool.and_true, decide_eq_true_eq, Bool.not_eq_eq_eq_not, exists_eq_left, exists_eq_left', Option.some.injEq, List.length_map]
      refine ⟨j, by exact ixN_nat hj, ?_⟩
      rw [map_set_int]
      refine (hA _ ⟨by rw [List.length_set]; omega, by rw [List.length_set]; omega, fun y hy => ?_, part, List.mem_set hj _, by omega⟩ (by rw [List.length_set]; omega) (by rw [List.length_set]; omega))
      rcases List.mem_or_eq_of_mem_set hy with z | z
      · have := hns y z; have : big = 1000000000000000000000000000000 := rfl; omega
      · have : big = 1000000000000000000000000000000 := rfl; omega
    · rw [if_neg (by simpa using c0)]
      refine (hA _ ⟨by omega, by omega, fun y hy => by have := hns y hy; have : big = 1000000000000000000000000000000 := rfl; omega, xs.foldl max x, ?_, c0⟩ (by omega) (by omega))
      rw [ens]
      rcases fold_max_in xs x with q | q
      · rw [q]; exact List.mem_cons_self
      · exact List.mem_cons_of_mem _ q
end Pu


namespace Nt
/-! ### plain numbers: doubling modulo a sum -/
theorem gcd_sum (a b : Nat) : Nat.gcd a (a + b) = Nat.gcd a b := by
  simp
theorem sum_dvd {a b : Nat} (h : 0 < a + b) (k : Nat) : (a + b) ∣ a * k ↔ (a + b) / Nat.gcd a b ∣ k := by
  have hg : 0 < Nat.gcd a b := Nat.pos_of_ne_zero fun z => by
    have := Nat.gcd_eq_zero_iff.mp z
    omega
  have d1 : Nat.gcd a b ∣ a + b := Nat.dvd_add (Nat.gcd_dvd_left a b) (Nat.gcd_dvd_right a b)
  have d2 : Nat.gcd a b ∣ a := Nat.gcd_dvd_left a b
  have hc : Nat.Coprime ((a + b) / Nat.gcd a b) (a / Nat.gcd a b) := by
    have q := Nat.coprime_div_gcd_div_gcd (m := a) (n := a + b) (by rw [gcd_sum]; exact hg)
    rw [gcd_sum] at q
    exact q.symm
  have e1 : a + b = Nat.gcd a b * ((a + b) / Nat.gcd a b) := (Nat.mul_div_cancel' d1).symm
  have e2 : a = Nat.gcd a b * (a / Nat.gcd a b) := (Nat.mul_div_cancel' d2).symm
  generalize hn : (a + b) / Nat.gcd a b = n at *
  generalize hm : a / Nat.gcd a b = m at *
  generalize hgg : Nat.gcd a b = g at *
  rw [e1, e2, Nat.mul_assoc, Nat.mul_dvd_mul_iff_left hg]
  constructor
  · intro h
    exact hc.dvd_of_dvd_mul_left h
  · intro h
    exact Nat.dvd_trans h (Nat.dvd_mul_left k m)
theorem odd_cop {l : Nat} (h : l % 2 = 1) (m : Nat) : Nat.Coprime l (2 ^ m) := by
  refine Nat.Coprime.pow_right m ?_
  rw [Nat.coprime_comm]
  have := Nat.gcd_rec 2 l
  unfold Nat.Coprime
  rw [this, h]
  rfl
theorem dvd_two {l f m : Nat} (h : l % 2 = 1) : l * 2 ^ f ∣ 2 ^ m ↔ l = 1 ∧ f ≤ m := by
  constructor
  · intro q
    have q1 : l ∣ 2 ^ m := Nat.dvd_trans (Nat.dvd_mul_right l _) q
    have q2 : 2 ^ f ∣ 2 ^ m := Nat.dvd_trans (Nat.dvd_mul_left _ l) q
    exact ⟨Nat.Coprime.eq_one_of_dvd (odd_cop h m) q1, (Nat.pow_dvd_pow_iff_le_right (by decide)).mp q2⟩
  · rintro ⟨rfl, q⟩
    rw [Nat.one_mul]
    exact Nat.pow_dvd_pow 2 q
theorem two_pred_odd {d : Nat} (h : 1 ≤ d) : (2 ^ d - 1) % 2 = 1 := by
  obtain ⟨k, rfl⟩ : ∃ k, d = k + 1 := ⟨d - 1, by omega⟩
  have := Nat.two_pow_pos k
  rw [Nat.pow_succ]
  omega
theorem dvd_diff {l f i d : Nat} (h : l % 2 = 1) (hd : 1 ≤ d) : l * 2 ^ f ∣ 2 ^ i * (2 ^ d - 1) ↔ f ≤ i ∧ l ∣ 2 ^ d - 1 := by
  constructor
  · intro q
    have q1 : l ∣ 2 ^ i * (2 ^ d - 1) := Nat.dvd_trans (Nat.dvd_mul_right l _) q
    have q2 : 2 ^ f ∣ 2 ^ i * (2 ^ d - 1) := Nat.dvd_trans (Nat.dvd_mul_left _ l) q
    refine ⟨?_, (odd_cop h i).dvd_of_dvd_mul_left q1⟩
    have c : Nat.Coprime (2 ^ f) (2 ^ d - 1) := (odd_cop (two_pred_odd hd) f).symm
    exact (Nat.pow_dvd_pow_iff_le_right (by decide)).mp (c.dvd_of_dvd_mul_right q2)
  · rintro ⟨q1, q2⟩
    rw [Nat.mul_comm l]
    exact Nat.mul_dvd_mul (Nat.pow_dvd_pow 2 q1) q2
/-- a · 2^i and a · 2^j modulo a + b -/
theorem same_iff {a b i d : Nat} (h : 0 < a + b) : a * 2 ^ (i + d) % (a + b) = a * 2 ^ i % (a + b) ↔ (a + b) / Nat.gcd a b ∣ 2 ^ i * (2 ^ d - 1) := by
  rw [← sum_dvd h]
  have e : a * 2 ^ (i + d) - a * 2 ^ i = a * (2 ^ i * (2 ^ d - 1)) := by
    rw [Nat.pow_add, Nat.mul_sub, Nat.mul_one, Nat.mul_sub]
  have le : a * 2 ^ i ≤ a * 2 ^ (i + d) := Nat.mul_le_mul_left a (Nat.pow_le_pow_right (by decide) (by omega))
  rw [← e]
  constructor
  · intro q
    exact Nat.dvd_of_mod_eq_zero (Nat.sub_mod_eq_zero_of_mod_eq q)
  · rintro ⟨c, hc⟩
    have e2 : a * 2 ^ (i + d) = a * 2 ^ i + (a + b) * c := by omega
    rw [e2, Nat.add_mul_mod_self_left]
/-- pigeons: among 2^0 .. 2^l two are alike modulo l -/
theorem alike (f : Nat → Nat) (l : Nat) (hf : ∀ k, f k < l) : ∃ i j, i < j ∧ j ≤ l ∧ f i = f j := by
  rcases Classical.em (∃ i j, i < j ∧ j ≤ l ∧ f i = f j) with c | c
  · exact c
  · exfalso
    have nd : ((List.range (l + 1)).map f).Nodup := by
      rw [List.Nodup, List.pairwise_map]
      refine List.Pairwise.imp_of_mem (R := fun x y => x < y) (fun {x y} hx hy hlt e => ?_) List.pairwise_lt_range
      exact c ⟨x, y, hlt, Nat.le_of_lt_succ (List.mem_range.mp hy), e⟩
    have hs : ∀ x ∈ (List.range (l + 1)).map f, x ∈ List.range l := fun x hx => by
      obtain ⟨i, _, rfl⟩ := List.mem_map.mp hx
      exact List.mem_range.mpr (hf i)
    have q := nd.length_le_of_subset hs
    rw [List.length_map, List.length_range, List.length_range] at q
    omega
theorem has_ring {l : Nat} (h : l % 2 = 1) : ∃ r, 1 ≤ r ∧ l ∣ 2 ^ r - 1 := by
  obtain ⟨i, j, hij, _, e⟩ := alike (fun k => 2 ^ k % l) l fun k => Nat.mod_lt _ (by omega)
  refine ⟨j - i, by omega, ?_⟩
  have e1 : 2 ^ j = 2 ^ i * 2 ^ (j - i) := by rw [← Nat.pow_add]; congr 1; omega
  have d : l ∣ 2 ^ i * (2 ^ (j - i) - 1) := by
    rw [Nat.mul_sub, Nat.mul_one, ← e1]
    exact Nat.dvd_of_mod_eq_zero (Nat.sub_mod_eq_zero_of_mod_eq e.symm)
  exact (odd_cop h i).dvd_of_dvd_mul_left d
/-- the least r ≥ 1 -/
structure IsRing (l r : Nat) : Prop where
  pos : 1 ≤ r
  dv : l ∣ 2 ^ r - 1
  least : ∀ d, 1 ≤ d → d < r → ¬ l ∣ 2 ^ d - 1
theorem ring_ex {l : Nat} (h : l % 2 = 1) : ∃ r, IsRing l r := by
  obtain ⟨r, h1, h2⟩ := has_ring h
  induction r using Nat.strongRecOn with
  | ind r ih =>
    rcases Classical.em (∃ d, 1 ≤ d ∧ d < r ∧ l ∣ 2 ^ d - 1) with ⟨d, d1, d2, d3⟩ | c
    · exact ih d d2 d1 d3
    · exact ⟨r, h1, h2, fun d d1 d2 d3 => c ⟨d, d1, d2, d3⟩⟩
theorem one_iff {l d : Nat} (h : 2 ≤ l) : 2 ^ d % l = 1 ↔ l ∣ 2 ^ d - 1 := by
  have hp := Nat.two_pow_pos d
  have h1 : 1 % l = 1 := Nat.mod_eq_of_lt (by omega)
  constructor
  · intro q
    exact Nat.dvd_of_mod_eq_zero (Nat.sub_mod_eq_zero_of_mod_eq (by rw [q, h1]))
  · rintro ⟨c, hc⟩
    have e2 : 2 ^ d = 1 + l * c := by omega
    rw [e2, Nat.add_mul_mod_self_left, h1]
end Nt

namespace Pu
open PySem L2
/-! ### pairs.py -/
theorem fmod_nat (x y : Nat) : ((x : Int).fmod (y : Int)) = ((x % y : Nat) : Int) := by
  rw [Int.fmod_eq_emod_of_nonneg _ (Int.natCast_nonneg y)]
  rfl
theorem div_nat (x y : Nat) : ((x : Int) / (y : Int)) = ((x / y : Nat) : Int) := rfl
theorem small_nat {x : Nat} (h : x ≤ 4 * 1000000000000000000000000000000) : ((x : Int)).natAbs < 2 ^ 110 := by
  have : (2 : Nat) ^ 110 = 1298074214633706907132624082305024 := by decide
  omega
theorem mul_nat {x y : Nat} (hx : x ≤ 4 * 1000000000000000000000000000000) (hy : y ≤ 4 * 1000000000000000000000000000000) : CMulW (x : Int) (y : Int) := wide_mul (small_nat hx) (small_nat hy) (by decide) (by decide) (by decide)
theorem divc_nat {x y : Nat} (h0 : 0 < y) (hy : y ≤ 4 * 1000000000000000000000000000000) : CDivW (x : Int) (y : Int) := wide_div (b := 110) (by omega) (small_nat hy) (by decide) (by decide)
def sp_common : Spc := fun ds A _ => ∃ a b : Nat, ds = [.int a, .int b] ∧ A (.int (Nat.gcd a b))

def w_common : WS :=
    (wSeq (wWh (wTru (wV 1)) (wPar 0 1 (wCons (wV 1) (wCons (wOp gMod (wV 0) (wV 1)) wNil))))
    (wRet (wV 0)))
theorem pure_common : Pure 2 2 sp_common w_common := by
  rintro ds A B - ⟨a, b, rfl, hA⟩
  simp only [w_common, bl?, g2, gAdd, gDiv, gEq, gGe, gGt, gI, gIn, gInt, gIs, gIsNot, gLe, gLen, gList, gLt, gMM, gMod, gMul, gMulS, gNe, gNotIn, gPow, gSorted, gSub, gIadd, gSum, gTuple, puts, sV, sVs, slotM, wAnd, wApp, wAsg, wAug, wAugI, wB, wC, wCall, wCallR, wChain, wCons, wDraw, wDrop, wEnL, wEnT, wExt, wFn, wFnO, wFor, wGCons, wGNil, wGT, wIL, wIT, wIf, wIfS, wIsi, wIx, wLc, wLst, wMNil, wMO, wMV, wMix, wN, wNeg, wNil, wNot, wNotT, wO, wOp, wOr, wOwn, wPar, wR1, wR2, wRaise, wRaiseF, wRet, wSeq, wSet, wSetI, wSkip, wTAnd, wTNot, wTOr, wTru, wTry, wTryF, wTup, wV, wYes, startS, List.length_cons, List.length_nil, List.map_cons, List.map_nil, List.getElem?_cons_zero, List.getElem?_cons_succ, List.set_cons_zero, List.set_cons_succ, List.cons_append, List.nil_append, List.append_nil, List.replicate_succ, List.replicate_zero, Nat.reduceAdd, Nat.reduceSub, ↓reduceIte, Bool.false_eq_true, reduceCtorEq, true_and, and_true, true_or, or_true, false_or, or_false, Bool.not_true, Bool.not_false, Bool.true_and, Bool.false_and, Bool.and_true, decide_eq_true_eq, Bool.not_eq_eq_eq_not, exists_eq_left, exists_eq_left', Option.some.injEq]
  refine ⟨b + 1, wh_ok (fun (s : Nat × Nat) S => S = [.im (.int (s.1 : Int)), .im (.int (s.2 : Int))] ∧ Nat.gcd s.1 s.2 = Nat.gcd a b) (fun s => s.2) ?_ (b + 1) (a, b) _ (Nat.lt_succ_self b) ⟨rfl, rfl⟩⟩
  rintro ⟨x, y⟩ S ⟨rfl, hg⟩ Nx hN
  have hg : Nat.gcd x y = Nat.gcd a b := hg
  by_cases c : y = 0
  · subst c
    rw [Nat.gcd_zero_right] at hg
    simp only [bl?, g2, gAdd, gDiv, gEq, gGe, gGt, gI, gIn, gInt, gIs, gIsNot, gLe, gLen, gList, gLt, gMM, gMod, gMul, gMulS, gNe, gNotIn, gPow, gSorted, gSub, gIadd, gSum, gTuple, puts, sV, sVs, slotM, wAnd, wApp, wAsg, wAug, wAugI, wB, wC, wCall, wCallR, wChain, wCons, wDraw, wDrop, wEnL, wEnT, wExt, wFn, wFnO, wFor, wGCons, wGNil, wGT, wIL, wIT, wIf, wIfS, wIsi, wIx, wLc, wLst, wMNil, wMO, wMV, wMix, wN, wNeg, wNil, wNot, wNotT, wO, wOp, wOr, wOwn, wPar, wR1, wR2, wRaise, wRaiseF, wRet, wSeq, wSet, wSetI, wSkip, wTAnd, wTNot, wTOr, wTru, wTry, wTryF, wTup, wV, wYes, startS, List.length_cons, List.length_nil, List.map_cons, List.map_nil, List.getElem?_cons_zero, List.getElem?_cons_succ, List.set_cons_zero, List.set_cons_succ, List.cons_append, List.nil_append, List.append_nil, List.replicate_succ, List.replicate_zero, Nat.reduceAdd, Nat.reduceSub, ↓reduceIte, Bool.false_eq_true, reduceCtorEq, true_and, and_true, true_or, or_true, false_or, or_false, Bool.not_true, Bool.not_false, Bool.true_and, Bool.false_and, Bool.and_true, decide_eq_true_eq, Bool.not_eq_eq_eq_not, exists_eq_left, exists_eq_left', Option.some.injEq]
    rw [← hg] at hA
    simpa using hA
  · have c' : ((y : Int) != 0) = true := by simpa using c
    have c2 : (y : Int) ≠ 0 := by omega
    simp only [bl?, g2, gAdd, gDiv, gEq, gGe, gGt, gI, gIn, gInt, gIs, gIsNot, gLe, gLen, gList, gLt, gMM, gMod, gMul, gMulS, gNe, gNotIn, gPow, gSorted, gSub, gIadd, gSum, gTuple, puts, sV, sVs, slotM, wAnd, wApp, wAsg, wAug, wAugI, wB, wC, wCall, wCallR, wChain, wCons, wDraw, wDrop, wEnL, wEnT, wExt, wFn, wFnO, wFor, wGCons, wGNil, wGT, wIL, wIT, wIf, wIfS, wIsi, wIx, wLc, wLst, wMNil, wMO, wMV, wMix, wN, wNeg, wNil, wNot, wNotT, wO, wOp, wOr, wOwn, wPar, wR1, wR2, wRaise, wRaiseF, wRet, wSeq, wSet, wSetI, wSkip, wTAnd, wTNot, wTOr, wTru, wTry, wTryF, wTup, wV, wYes, startS, List.length_cons, List.length_nil, List.map_cons, List.map_nil, List.getElem?_cons_zero, List.getElem?_cons_succ, List.set_cons_zero, List.set_cons_succ, List.cons_append, List.nil_append, List.append_nil, List.replicate_succ, List.replicate_zero, Nat.reduceAdd, Nat.reduceSub, ↓reduceIte, Bool.false_eq_true, reduceCtorEq, true_and, and_true, true_or, or_true, false_or, or_false, Bool.not_true, Bool.not_false, Bool.true_and, Bool.false_and, Bool.and_true, decide_eq_true_eq, Bool.not_eq_eq_eq_not, exists_eq_left, exists_eq_left', Option.some.injEq, c', fmod_nat, flats, flat, Bool.and_self]
    refine ⟨c2, hN (y, x % y) _ (Nat.mod_lt x (by omega)) ⟨rfl, ?_⟩⟩
    show Nat.gcd y (x % y) = Nat.gcd a b
    rw [← hg, Nat.gcd_comm x y, Nat.gcd_rec y x, Nat.gcd_comm]
def sp_power : Spc := fun ds A _ => ∃ m n : Nat, ds = [.int m, .int n] ∧ 1 ≤ n ∧ n ≤ 2000000000000000000000000000000 ∧ A (.int ((2 ^ m % n : Nat) : Int))

def w_power : WS :=
    (wSeq (wPar 2 3 (wCons (wOp gMod (wC (.int 1)) (wV 1)) (wCons (wOp gMod (wC (.int 2)) (wV 1)) wNil)))
    (wSeq (wWh (wB (wOp gGt (wV 0) (wC (.int 0)))) (wSeq (wIfS (wB (wOp gEq (wOp gMod (wV 0) (wC (.int 2))) (wC (.int 1)))) (wSet 2 (wOp gMod (wOp gMul (wV 2) (wV 3)) (wV 1))) wSkip)
    (wSeq (wSet 3 (wOp gMod (wOp gMul (wV 3) (wV 3)) (wV 1)))
    (wAug 0 gDiv (wC (.int 2))))))
    (wRet (wV 2))))
theorem pure_power : Pure 4 2 sp_power w_power := by
  rintro ds A B - ⟨m, n, rfl, h1, h2, hA⟩
  have n0 : (n : Int) ≠ 0 := by omega
  simp only [w_power, bl?, g2, gAdd, gDiv, gEq, gGe, gGt, gI, gIn, gInt, gIs, gIsNot, gLe, gLen, gList, gLt, gMM, gMod, gMul, gMulS, gNe, gNotIn, gPow, gSorted, gSub, gIadd, gSum, gTuple, puts, sV, sVs, slotM, wAnd, wApp, wAsg, wAug, wAugI, wB, wC, wCall, wCallR, wChain, wCons, wDraw, wDrop, wEnL, wEnT, wExt, wFn, wFnO, wFor, wGCons, wGNil, wGT, wIL, wIT, wIf, wIfS, wIsi, wIx, wLc, wLst, wMNil, wMO, wMV, wMix, wN, wNeg, wNil, wNot, wNotT, wO, wOp, wOr, wOwn, wPar, wR1, wR2, wRaise, wRaiseF, wRet, wSeq, wSet, wSetI, wSkip, wTAnd, wTNot, wTOr, wTru, wTry, wTryF, wTup, wV, wYes, startS, List.length_cons, List.length_nil, List.map_cons, List.map_nil, List.getElem?_cons_zero, List.getElem?_cons_succ, List.set_cons_zero, List.set_cons_succ, List.cons_append, List.nil_append, List.append_nil, List.replicate_succ, List.replicate_zero, Nat.reduceAdd, Nat.reduceSub, ↓reduceIte, Bool.false_eq_true, reduceCtorEq, true_and, and_true, true_or, or_true, false_or, or_false, Bool.not_true, Bool.not_false, Bool.true_and, Bool.false_and, Bool.and_true, decide_eq_true_eq, Bool.not_eq_eq_eq_not, exists_eq_left, exists_eq_left', Option.some.injEq]
  have e1 : ((1 : Int).fmod n) = ((1 % n : Nat) : Int) := fmod_nat 1 n
  have e2 : ((2 : Int).fmod n) = ((2 % n : Nat) : Int) := fmod_nat 2 n
  simp only [e1, e2, flats, flat, Bool.and_self, startS, List.length_cons, List.length_nil, List.map_cons, List.map_nil, List.getElem?_cons_zero, List.getElem?_cons_succ, List.set_cons_zero, List.set_cons_succ, List.cons_append, List.nil_append, List.append_nil, List.replicate_succ, List.replicate_zero, Nat.reduceAdd, Nat.reduceSub, ↓reduceIte, Bool.false_eq_true, reduceCtorEq, true_and, and_true, true_or, or_true, false_or, or_false, Bool.not_true, Bool.not_false, Bool.true_and, Bool.false_and, Bool.and_true, decide_eq_true_eq, Bool.not_eq_eq_eq_not, exists_eq_left, exists_eq_left', Option.some.injEq]
  refine ⟨n0, n0, m + 1, wh_ok (fun (s : Nat × Nat × Nat) S => S = [.im (.int (s.1 : Int)), .im (.int (n : Int)), .im (.int (s.2.1 : Int)), .im (.int (s.2.2 : Int))] ∧ s.2.1 < n ∧ s.2.2 < n ∧ s.2.1 * s.2.2 ^ s.1 % n = 2 ^ m % n) (fun s => s.1) ?_ (m + 1) (m, 1 % n, 2 % n) _ (Nat.lt_succ_self m) ⟨rfl, Nat.mod_lt _ (by omega), Nat.mod_lt _ (by omega), ?_⟩⟩
  · rintro ⟨x, f, b⟩ S ⟨rfl, hf, hb, he⟩ Nx hN
    have hf : f < n := hf
    have hb : b < n := hb
    have he : f * b ^ x % n = 2 ^ m % n := he
    by_cases c : x = 0
    · subst c
      rw [Nat.pow_zero, Nat.mul_one, Nat.mod_eq_of_lt hf] at he
      simp only [bl?, g2, gAdd, gDiv, gEq, gGe, gGt, gI, gIn, gInt, gIs, gIsNot, gLe, gLen, gList, gLt, gMM, gMod, gMul, gMulS, gNe, gNotIn, gPow, gSorted, gSub, gIadd, gSum, gTuple, puts, sV, sVs, slotM, wAnd, wApp, wAsg, wAug, wAugI, wB, wC, wCall, wCallR, wChain, wCons, wDraw, wDrop, wEnL, wEnT, wExt, wFn, wFnO, wFor, wGCons, wGNil, wGT, wIL, wIT, wIf, wIfS, wIsi, wIx, wLc, wLst, wMNil, wMO, wMV, wMix, wN, wNeg, wNil, wNot, wNotT, wO, wOp, wOr, wOwn, wPar, wR1, wR2, wRaise, wRaiseF, wRet, wSeq, wSet, wSetI, wSkip, wTAnd, wTNot, wTOr, wTru, wTry, wTryF, wTup, wV, wYes, startS, List.length_cons, List.length_nil, List.map_cons, List.map_nil, List.getElem?_cons_zero, List.getElem?_cons_succ, List.set_cons_zero, List.set_cons_succ, List.cons_append, List.nil_append, List.append_nil, List.replicate_succ, List.replicate_zero, Nat.reduceAdd, Nat.reduceSub, ↓reduceIte, Bool.false_eq_true, reduceCtorEq, true_and, and_true, true_or, or_true, false_or, or_false, Bool.not_true, Bool.not_false, Bool.true_and, Bool.false_and, Bool.and_true, decide_eq_true_eq, Bool.not_eq_eq_eq_not, exists_eq_left, exists_eq_left', Option.some.injEq]
      rw [← he] at hA
      simpa using hA
    · have c1 : (0 : Int) < x := by omega
      have m1 : CMulW (f : Int) (b : Int) := mul_nat (by omega) (by omega)
      have m2 : CMulW (b : Int) (b : Int) := mul_nat (by omega) (by omega)
      have e3 : ((x : Int).fmod 2) = ((x % 2 : Nat) : Int) := fmod_nat x 2
      have e4 : ((x : Int) / 2) = ((x / 2 : Nat) : Int) := rfl
      have d2 : CDivW (x : Int) 2 := ⟨by decide, by decide⟩
      have mb : ((f : Int) * b).fmod n = ((f * b % n : Nat) : Int) := fmod_nat (f * b) n
      have bb : ((b : Int) * b).fmod n = ((b * b % n : Nat) : Int) := fmod_nat (b * b) n
      simp only [bl?, g2, gAdd, gDiv, gEq, gGe, gGt, gI, gIn, gInt, gIs, gIsNot, gLe, gLen, gList, gLt, gMM, gMod, gMul, gMulS, gNe, gNotIn, gPow, gSorted, gSub, gIadd, gSum, gTuple, puts, sV, sVs, slotM, wAnd, wApp, wAsg, wAug, wAugI, wB, wC, wCall, wCallR, wChain, wCons, wDraw, wDrop, wEnL, wEnT, wExt, wFn, wFnO, wFor, wGCons, wGNil, wGT, wIL, wIT, wIf, wIfS, wIsi, wIx, wLc, wLst, wMNil, wMO, wMV, wMix, wN, wNeg, wNil, wNot, wNotT, wO, wOp, wOr, wOwn, wPar, wR1, wR2, wRaise, wRaiseF, wRet, wSeq, wSet, wSetI, wSkip, wTAnd, wTNot, wTOr, wTru, wTry, wTryF, wTup, wV, wYes, startS, List.length_cons, List.length_nil, List.map_cons, List.map_nil, List.getElem?_cons_zero, List.getElem?_cons_succ, List.set_cons_zero, List.set_cons_succ, List.cons_append, List.nil_append, List.append_nil, List.replicate_succ, List.replicate_zero, Nat.reduceAdd, Nat.reduceSub, ↓reduceIte, Bool.false_eq_true, reduceCtorEq, true_and, and_true, true_or, or_true, false_or, or_false, Bool.not_true, Bool.not_false, Bool.true_and, Bool.false_and, Bool.and_true, decide_eq_true_eq, Bool.not_eq_eq_eq_not, exists_eq_left, exists_eq_left', Option.some.injEq, c1, decide_true, e3, e4, mb, bb, flat, shaped_int, eqv_int]
      have hx : x = 2 * (x / 2) + x % 2 := by omega
      have hpow : (b * b % n) ^ (x / 2) % n = b ^ (2 * (x / 2)) % n := by
        rw [← Nat.pow_mod, Nat.pow_mul, Nat.pow_two]
      by_cases ho : x % 2 = 1
      · have ho' : (((x % 2 : Nat) : Int) = 1) := by omega
        simp only [ho', decide_true, startS, List.length_cons, List.length_nil, List.map_cons, List.map_nil, List.getElem?_cons_zero, List.getElem?_cons_succ, List.set_cons_zero, List.set_cons_succ, List.cons_append, List.nil_append, List.append_nil, List.replicate_succ, List.replicate_zero, Nat.reduceAdd, Nat.reduceSub, ↓reduceIte, Bool.false_eq_true, reduceCtorEq, true_and, and_true, true_or, or_true, false_or, or_false, Bool.not_true, Bool.not_false, Bool.true_and, Bool.false_and, Bool.and_true, decide_eq_true_eq, Bool.not_eq_eq_eq_not, exists_eq_left, exists_eq_left', Option.some.injEq]
        refine ⟨by decide, m1, n0, m2, n0, d2, hN (x / 2, f * b % n, b * b % n) _ (by show x / 2 < x; omega) ⟨rfl, Nat.mod_lt _ (by omega), Nat.mod_lt _ (by omega), ?_⟩⟩
        show f * b % n * (b * b % n) ^ (x / 2) % n = 2 ^ m % n
        rw [← he, Nat.mul_mod, Nat.mod_mod, hpow, ← Nat.mul_mod, Nat.mul_assoc, ← Nat.pow_succ']
        congr 3
        omega
      · have ho' : ¬ (((x % 2 : Nat) : Int) = 1) := by omega
        simp only [ho', decide_false, startS, List.length_cons, List.length_nil, List.map_cons, List.map_nil, List.getElem?_cons_zero, List.getElem?_cons_succ, List.set_cons_zero, List.set_cons_succ, List.cons_append, List.nil_append, List.append_nil, List.replicate_succ, List.replicate_zero, Nat.reduceAdd, Nat.reduceSub, ↓reduceIte, Bool.false_eq_true, reduceCtorEq, true_and, and_true, true_or, or_true, false_or, or_false, Bool.not_true, Bool.not_false, Bool.true_and, Bool.false_and, Bool.and_true, decide_eq_true_eq, Bool.not_eq_eq_eq_not, exists_eq_left, exists_eq_left', Option.some.injEq]
        refine ⟨by decide, m2, n0, d2, hN (x / 2, f, b * b % n) _ (by show x / 2 < x; omega) ⟨rfl, hf, Nat.mod_lt _ (by omega), ?_⟩⟩
        show f * (b * b % n) ^ (x / 2) % n = 2 ^ m % n
        rw [← he, Nat.mul_mod, hpow, ← Nat.mul_mod]
        congr 3
        omega
  · show 1 % n * (2 % n) ^ m % n = 2 ^ m % n
    rw [Nat.mul_mod, Nat.mod_mod, ← Nat.pow_mod, ← Nat.mul_mod, Nat.one_mul]

/-- two heaps as they come: a of w, and the rest -/
def eT (w x : Nat) : PyData := eH [(x : Int), ((w - x : Nat) : Int)]
theorem gt_0 (x y : Int) : gt [x, y] 0 = x := rfl
theorem gt_1 (x y : Int) : gt [x, y] 1 = y := rfl
theorem at_p0 (x y : Int) : atD [PyData.int x, .int y] 0 = some (.int x) := rfl
theorem at_p1 (x y : Int) : atD [PyData.int x, .int y] 1 = some (.int y) := rfl
structure OkT (w x : Nat) : Prop where
  pos : 1 ≤ w
  le : x ≤ w
  ok : OkH [(x : Int), ((w - x : Nat) : Int)]
theorem OkT.big {w x : Nat} (o : OkT w x) : w ≤ 2000000000000000000000000000000 := by
  have h1 := (o.ok.rg (x : Int) (by simp)).2
  have h2 := (o.ok.rg ((w - x : Nat) : Int) (by simp)).2
  have e : Pu.big = 1000000000000000000000000000000 := rfl
  have := o.le
  omega
theorem sum_T {w x : Nat} (h : x ≤ w) : ([(x : Int), ((w - x : Nat) : Int)] : List Int).sum = (w : Int) := by
  simp
  omega
/-- how many steps until one heap is empty: n = l · 2^f, l odd -/
def sp_end_of : Spc := fun ds A _ => ∃ w x : Nat, ds = [eT w x] ∧ OkT w x ∧ ∀ l f, w / Nat.gcd x (w - x) = l * 2 ^ f → l % 2 = 1 → A (eO (if l = 1 then some f else none))

def w_end_of : WS :=
    (wSeq (wSet 1 (wOp gDiv (wFn gSum (wCons (wV 0) wNil)) (wCall sp_common (wCons (wIx (wV 0) (wC (.int 0))) (wCons (wIx (wV 0) (wC (.int 1))) wNil)))))
    (wSeq (wSet 2 (wC (.int 0)))
    (wSeq (wWh (wB (wOp gEq (wOp gMod (wV 1) (wC (.int 2))) (wC (.int 0)))) (wSeq (wAug 1 gDiv (wC (.int 2)))
    (wAug 2 gIadd (wC (.int 1)))))
    (wSeq (wIfS (wB (wOp gGt (wV 1) (wC (.int 1)))) (wRet (wC .none)) wSkip)
    (wRet (wV 2))))))
theorem common_use {a b : Nat} {A : PyData → Prop} {B : XC → Prop} (h : A (.int (Nat.gcd a b))) : sp_common [.int a, .int b] A B := ⟨a, b, rfl, h⟩
theorem quot_pos {w x : Nat} (o : OkT w x) : 1 ≤ w / Nat.gcd x (w - x) ∧ 0 < Nat.gcd x (w - x) := by
  have hp := o.pos
  have hl := o.le
  have hg : 0 < Nat.gcd x (w - x) := Nat.pos_of_ne_zero fun z => by
    have := Nat.gcd_eq_zero_iff.mp z
    omega
  have d : Nat.gcd x (w - x) ∣ w := by
    have q := Nat.dvd_add (Nat.gcd_dvd_left x (w - x)) (Nat.gcd_dvd_right x (w - x))
    have e : x + (w - x) = w := by omega
    rw [e] at q
    exact q
  exact ⟨(Nat.le_div_iff_mul_le hg).mpr (by rw [Nat.one_mul]; exact Nat.le_of_dvd (by omega) d), hg⟩
theorem pure_end_of : Pure 3 1 sp_end_of w_end_of := by
  rintro ds A B - ⟨w, x, rfl, o, hA⟩
  have hb := o.big
  obtain ⟨hq, hg⟩ := quot_pos o
  have hgl : Nat.gcd x (w - x) ≤ w := by
    have q := Nat.dvd_add (Nat.gcd_dvd_left x (w - x)) (Nat.gcd_dvd_right x (w - x))
    have := Nat.le_of_dvd (by have := o.pos; omega) q
    have := o.le
    omega
  have ql : w / Nat.gcd x (w - x) ≤ w := Nat.div_le_self _ _
  simp only [w_end_of, bl?, g2, gAdd, gDiv, gEq, gGe, gGt, gI, gIn, gInt, gIs, gIsNot, gLe, gLen, gList, gLt, gMM, gMod, gMul, gMulS, gNe, gNotIn, gPow, gSorted, gSub, gIadd, gSum, gTuple, puts, sV, sVs, slotM, wAnd, wApp, wAsg, wAug, wAugI, wB, wC, wCall, wCallR, wChain, wCons, wDraw, wDrop, wEnL, wEnT, wExt, wFn, wFnO, wFor, wGCons, wGNil, wGT, wIL, wIT, wIf, wIfS, wIsi, wIx, wLc, wLst, wMNil, wMO, wMV, wMix, wN, wNeg, wNil, wNot, wNotT, wO, wOp, wOr, wOwn, wPar, wR1, wR2, wRaise, wRaiseF, wRet, wSeq, wSet, wSetI, wSkip, wTAnd, wTNot, wTOr, wTru, wTry, wTryF, wTup, wV, wYes, startS, List.length_cons, List.length_nil, List.map_cons, List.map_nil, List.getElem?_cons_zero, List.getElem?_cons_succ, List.set_cons_zero, List.set_cons_succ, List.cons_append, List.nil_append, List.append_nil, List.replicate_succ, List.replicate_zero, Nat.reduceAdd, Nat.reduceSub, ↓reduceIte, Bool.false_eq_true, reduceCtorEq, true_and, and_true, true_or, or_true, false_or, or_false, Bool.not_true, Bool.not_false, Bool.true_and, Bool.false_and, Bool.and_true, decide_eq_true_eq, Bool.not_eq_eq_eq_not, exists_eq_left, exists_eq_left', Option.some.injEq, eT, eH, at_p0, at_p1]
  refine ⟨_, ints?_map [(x : Int), ((w - x : Nat) : Int)], common_use ?_⟩
  rw [sum_T o.le]
  simp only [startS, List.length_cons, List.length_nil, List.map_cons, List.map_nil, List.getElem?_cons_zero, List.getElem?_cons_succ, List.set_cons_zero, List.set_cons_succ, List.cons_append, List.nil_append, List.append_nil, List.replicate_succ, List.replicate_zero, Nat.reduceAdd, Nat.reduceSub, ↓reduceIte, Bool.false_eq_true, reduceCtorEq, true_and, and_true, true_or, or_true, false_or, or_false, Bool.not_true, Bool.not_false, Bool.true_and, Bool.false_and, Bool.and_true, decide_eq_true_eq, Bool.not_eq_eq_eq_not, exists_eq_left, exists_eq_left', Option.some.injEq, div_nat, flat]
  refine ⟨divc_nat hg (by omega), ?_⟩
  generalize w / Nat.gcd x (w - x) = n at hA hq ql
  refine ⟨n + 1, wh_ok (fun (s : Nat × Nat) S => ∃ s0, S = [s0, .im (.int (s.1 : Int)), .im (.int (s.2 : Int))] ∧ 1 ≤ s.1 ∧ n = s.1 * 2 ^ s.2) (fun s => s.1) ?_ (n + 1) (n, 0) _ (Nat.lt_succ_self n) ⟨_, rfl, hq, by rw [Nat.pow_zero, Nat.mul_one]⟩⟩
  rintro ⟨y, f⟩ S ⟨s0, rfl, hy, hn⟩ Nx hN
  have hy : 1 ≤ y := hy
  have hn : n = y * 2 ^ f := hn
  have e3 : ((y : Int).fmod 2) = ((y % 2 : Nat) : Int) := fmod_nat y 2
  have e4 : ((y : Int) / 2) = ((y / 2 : Nat) : Int) := rfl
  have d2 : CDivW (y : Int) 2 := ⟨by decide, by decide⟩
  simp only [bl?, g2, gAdd, gDiv, gEq, gGe, gGt, gI, gIn, gInt, gIs, gIsNot, gLe, gLen, gList, gLt, gMM, gMod, gMul, gMulS, gNe, gNotIn, gPow, gSorted, gSub, gIadd, gSum, gTuple, puts, sV, sVs, slotM, wAnd, wApp, wAsg, wAug, wAugI, wB, wC, wCall, wCallR, wChain, wCons, wDraw, wDrop, wEnL, wEnT, wExt, wFn, wFnO, wFor, wGCons, wGNil, wGT, wIL, wIT, wIf, wIfS, wIsi, wIx, wLc, wLst, wMNil, wMO, wMV, wMix, wN, wNeg, wNil, wNot, wNotT, wO, wOp, wOr, wOwn, wPar, wR1, wR2, wRaise, wRaiseF, wRet, wSeq, wSet, wSetI, wSkip, wTAnd, wTNot, wTOr, wTru, wTry, wTryF, wTup, wV, wYes, startS, List.length_cons, List.length_nil, List.map_cons, List.map_nil, List.getElem?_cons_zero, List.getElem?_cons_succ, List.set_cons_zero, List.set_cons_succ, List.cons_append, List.nil_append, List.append_nil, List.replicate_succ, List.replicate_zero, Nat.reduceAdd, Nat.reduceSub, ↓reduceIte, Bool.false_eq_true, reduceCtorEq, true_and, and_true, true_or, or_true, false_or, or_false, Bool.not_true, Bool.not_false, Bool.true_and, Bool.false_and, Bool.and_true, decide_eq_true_eq, Bool.not_eq_eq_eq_not, exists_eq_left, exists_eq_left', Option.some.injEq, e3, e4, shaped_int, eqv_int, flat]
  by_cases c : y % 2 = 0
  · have c' : (((y % 2 : Nat) : Int) = 0) := by omega
    simp only [c', decide_true, startS, List.length_cons, List.length_nil, List.map_cons, List.map_nil, List.getElem?_cons_zero, List.getElem?_cons_succ, List.set_cons_zero, List.set_cons_succ, List.cons_append, List.nil_append, List.append_nil, List.replicate_succ, List.replicate_zero, Nat.reduceAdd, Nat.reduceSub, ↓reduceIte, Bool.false_eq_true, reduceCtorEq, true_and, and_true, true_or, or_true, false_or, or_false, Bool.not_true, Bool.not_false, Bool.true_and, Bool.false_and, Bool.and_true, decide_eq_true_eq, Bool.not_eq_eq_eq_not, exists_eq_left, exists_eq_left', Option.some.injEq]
    refine ⟨by decide, d2, hN (y / 2, f + 1) _ (by show y / 2 < y; omega) ⟨s0, rfl, by show 1 ≤ y / 2; omega, ?_⟩⟩
    show n = y / 2 * 2 ^ (f + 1)
    rw [hn, Nat.pow_succ, Nat.mul_comm (2 ^ f) 2, ← Nat.mul_assoc]
    congr 1
    omega
  · have c' : ¬ (((y % 2 : Nat) : Int) = 0) := by omega
    have ho : y % 2 = 1 := by omega
    have hA' := hA y f hn ho
    simp only [c', decide_false, startS, List.length_cons, List.length_nil, List.map_cons, List.map_nil, List.getElem?_cons_zero, List.getElem?_cons_succ, List.set_cons_zero, List.set_cons_succ, List.cons_append, List.nil_append, List.append_nil, List.replicate_succ, List.replicate_zero, Nat.reduceAdd, Nat.reduceSub, ↓reduceIte, Bool.false_eq_true, reduceCtorEq, true_and, and_true, true_or, or_true, false_or, or_false, Bool.not_true, Bool.not_false, Bool.true_and, Bool.false_and, Bool.and_true, decide_eq_true_eq, Bool.not_eq_eq_eq_not, exists_eq_left, exists_eq_left', Option.some.injEq]
    refine ⟨by decide, ?_⟩
    by_cases c1 : y = 1
    · have c2 : ¬ ((1 : Int) < y) := by omega
      rw [if_pos c1] at hA'
      simp only [c2, decide_false, startS, List.length_cons, List.length_nil, List.map_cons, List.map_nil, List.getElem?_cons_zero, List.getElem?_cons_succ, List.set_cons_zero, List.set_cons_succ, List.cons_append, List.nil_append, List.append_nil, List.replicate_succ, List.replicate_zero, Nat.reduceAdd, Nat.reduceSub, ↓reduceIte, Bool.false_eq_true, reduceCtorEq, true_and, and_true, true_or, or_true, false_or, or_false, Bool.not_true, Bool.not_false, Bool.true_and, Bool.false_and, Bool.and_true, decide_eq_true_eq, Bool.not_eq_eq_eq_not, exists_eq_left, exists_eq_left', Option.some.injEq]
      exact hA'
    · have c2 : (1 : Int) < y := by omega
      rw [if_neg c1] at hA'
      simp only [c2, decide_true, startS, List.length_cons, List.length_nil, List.map_cons, List.map_nil, List.getElem?_cons_zero, List.getElem?_cons_succ, List.set_cons_zero, List.set_cons_succ, List.cons_append, List.nil_append, List.append_nil, List.replicate_succ, List.replicate_zero, Nat.reduceAdd, Nat.reduceSub, ↓reduceIte, Bool.false_eq_true, reduceCtorEq, true_and, and_true, true_or, or_true, false_or, or_false, Bool.not_true, Bool.not_false, Bool.true_and, Bool.false_and, Bool.and_true, decide_eq_true_eq, Bool.not_eq_eq_eq_not, exists_eq_left, exists_eq_left', Option.some.injEq]
      exact hA'

/-- when one heap is empty for the first time -/
def EndIs (w x : Nat) : Option Nat → Prop
  | some e => w ∣ x * 2 ^ e ∧ ∀ t, t < e → ¬ w ∣ x * 2 ^ t
  | none => ∀ t, ¬ w ∣ x * 2 ^ t
theorem dvd_T {w x : Nat} (o : OkT w x) (k : Nat) : w ∣ x * k ↔ w / Nat.gcd x (w - x) ∣ k := by
  have e : x + (w - x) = w := by have := o.le; omega
  have q := Nt.sum_dvd (a := x) (b := w - x) (by rw [e]; exact o.pos) k
  rw [e] at q
  exact q
theorem end_is {w x l f : Nat} (o : OkT w x) (h : w / Nat.gcd x (w - x) = l * 2 ^ f) (hl : l % 2 = 1) : EndIs w x (if l = 1 then some f else none) := by
  have key : ∀ t, w ∣ x * 2 ^ t ↔ l = 1 ∧ f ≤ t := fun t => by rw [dvd_T o, h]; exact Nt.dvd_two hl
  by_cases c : l = 1
  · rw [if_pos c]
    exact ⟨(key f).mpr ⟨c, Nat.le_refl f⟩, fun t ht z => by have := ((key t).mp z).2; omega⟩
  · rw [if_neg c]
    exact fun t z => c ((key t).mp z).1
theorem end_use {w x : Nat} {A : PyData → Prop} {B : XC → Prop} (o : OkT w x) (h : ∀ e, EndIs w x e → A (eO e)) : sp_end_of [eT w x] A B := ⟨w, x, rfl, o, fun l f h1 h2 => h _ (end_is o h1 h2)⟩
def sp_check_two : Spc := fun ds A _ => ∃ w x, ds = [eT w x] ∧ OkT w x ∧ A .none

def w_check_two : WS :=
    (wSeq (wDrop (wCall sp_check_heaps (wCons (wV 0) wNil)))
    (wIfS (wB (wOp gNe (wFn gLen (wCons (wV 0) wNil)) (wC (.int 2)))) (wRaise "BadHeaps") wSkip))
theorem pure_check_two : Pure 1 1 sp_check_two w_check_two := by
  rintro ds A B - ⟨w, x, rfl, o, hA⟩
  simp only [w_check_two, bl?, g2, gAdd, gDiv, gEq, gGe, gGt, gI, gIn, gInt, gIs, gIsNot, gLe, gLen, gList, gLt, gMM, gMod, gMul, gMulS, gNe, gNotIn, gPow, gSorted, gSub, gIadd, gSum, gTuple, puts, sV, sVs, slotM, wAnd, wApp, wAsg, wAug, wAugI, wB, wC, wCall, wCallR, wChain, wCons, wDraw, wDrop, wEnL, wEnT, wExt, wFn, wFnO, wFor, wGCons, wGNil, wGT, wIL, wIT, wIf, wIfS, wIsi, wIx, wLc, wLst, wMNil, wMO, wMV, wMix, wN, wNeg, wNil, wNot, wNotT, wO, wOp, wOr, wOwn, wPar, wR1, wR2, wRaise, wRaiseF, wRet, wSeq, wSet, wSetI, wSkip, wTAnd, wTNot, wTOr, wTru, wTry, wTryF, wTup, wV, wYes, startS, List.length_cons, List.length_nil, List.map_cons, List.map_nil, List.getElem?_cons_zero, List.getElem?_cons_succ, List.set_cons_zero, List.set_cons_succ, List.cons_append, List.nil_append, List.append_nil, List.replicate_succ, List.replicate_zero, Nat.reduceAdd, Nat.reduceSub, ↓reduceIte, Bool.false_eq_true, reduceCtorEq, true_and, and_true, true_or, or_true, false_or, or_false, Bool.not_true, Bool.not_false, Bool.true_and, Bool.false_and, Bool.and_true, decide_eq_true_eq, Bool.not_eq_eq_eq_not, exists_eq_left, exists_eq_left', Option.some.injEq, eT]
  refine check_ok o.ok ?_
  simp only [eH, bl?, g2, gAdd, gDiv, gEq, gGe, gGt, gI, gIn, gInt, gIs, gIsNot, gLe, gLen, gList, gLt, gMM, gMod, gMul, gMulS, gNe, gNotIn, gPow, gSorted, gSub, gIadd, gSum, gTuple, puts, sV, sVs, slotM, wAnd, wApp, wAsg, wAug, wAugI, wB, wC, wCall, wCallR, wChain, wCons, wDraw, wDrop, wEnL, wEnT, wExt, wFn, wFnO, wFor, wGCons, wGNil, wGT, wIL, wIT, wIf, wIfS, wIsi, wIx, wLc, wLst, wMNil, wMO, wMV, wMix, wN, wNeg, wNil, wNot, wNotT, wO, wOp, wOr, wOwn, wPar, wR1, wR2, wRaise, wRaiseF, wRet, wSeq, wSet, wSetI, wSkip, wTAnd, wTNot, wTOr, wTru, wTry, wTryF, wTup, wV, wYes, startS, List.length_cons, List.length_nil, List.map_cons, List.map_nil, List.getElem?_cons_zero, List.getElem?_cons_succ, List.set_cons_zero, List.set_cons_succ, List.cons_append, List.nil_append, List.append_nil, List.replicate_succ, List.replicate_zero, Nat.reduceAdd, Nat.reduceSub, ↓reduceIte, Bool.false_eq_true, reduceCtorEq, true_and, and_true, true_or, or_true, false_or, or_false, Bool.not_true, Bool.not_false, Bool.true_and, Bool.false_and, Bool.and_true, decide_eq_true_eq, Bool.not_eq_eq_eq_not, exists_eq_left, exists_eq_left', Option.some.injEq, shaped_int, eqv_int]
  simpa using hA
/-- the heaps behind t steps -/
def st (w x t : Nat) : Nat := if t = 0 then x else x * 2 ^ t % w
structure StopAt (w x m t : Nat) : Prop where
  le : t ≤ m
  no : ∀ i, i < t → ¬ w ∣ x * 2 ^ i
  at_ : t = m ∨ w ∣ x * 2 ^ t
theorem StopAt.uniq {w x m t t' : Nat} (a : StopAt w x m t) (b : StopAt w x m t') : t = t' := by
  rcases Nat.lt_trichotomy t t' with c | c | c
  · rcases a.at_ with z | z
    · have := b.le; omega
    · exact absurd z (b.no t c)
  · exact c
  · rcases b.at_ with z | z
    · have := a.le; omega
    · exact absurd z (a.no t' c)
theorem big_is : (1000000000000000000000000000000 : Int) = big := rfl
theorem power_use {m n : Nat} {A : PyData → Prop} {B : XC → Prop} (h1 : 1 ≤ n) (h2 : n ≤ 2000000000000000000000000000000) (h : A (.int ((2 ^ m % n : Nat) : Int))) : sp_power [.int (m : Int), .int (n : Int)] A B := ⟨m, n, rfl, h1, h2, h⟩
def sp_after : Spc := fun ds A _ => ∃ w x m : Nat, ds = [eT w x, .int m] ∧ OkT w x ∧ m ≤ 1000000000000000000000000000000 ∧ ∀ t, StopAt w x m t → A (eT w (st w x t))

def w_after : WS :=
    (wSeq (wDrop (wCall sp_check_two (wCons (wV 0) wNil)))
    (wSeq (wIfS (wTNot (wB (wCall sp_is_from (wCons (wV 1) (wCons (wC (.int 0)) (wCons (wC (.int 1000000000000000000000000000000)) wNil)))))) (wRaise "BadMany") wSkip)
    (wSeq (wSet 2 (wFn gSum (wCons (wV 0) wNil)))
    (wSeq (wSet 3 (wCall sp_end_of (wCons (wV 0) wNil)))
    (wSeq (wIfS (wTAnd (wB (wOp gIsNot (wV 3) (wC .none))) (wB (wOp gGe (wV 1) (wV 3)))) (wSeq (wIfS (wB (wOp gEq (wV 3) (wC (.int 0)))) (wRet (wV 0)) wSkip)
    (wRet (wTup (wCons (wC (.int 0)) (wCons (wV 2) wNil))))) wSkip)
    (wSeq (wSet 4 (wOp gMod (wOp gMul (wIx (wV 0) (wC (.int 0))) (wCall sp_power (wCons (wV 1) (wCons (wV 2) wNil)))) (wV 2)))
    (wRet (wTup (wCons (wV 4) (wCons (wOp gSub (wV 2) (wV 4)) wNil))))))))))
theorem pure_after : Pure 5 2 sp_after w_after := by
  rintro ds A B - ⟨w, x, m, rfl, o, hm, hA⟩
  have hb := o.big
  have hle := o.le
  have hpos := o.pos
  have n0 : (w : Int) ≠ 0 := by omega
  simp only [w_after, bl?, g2, gAdd, gDiv, gEq, gGe, gGt, gI, gIn, gInt, gIs, gIsNot, gLe, gLen, gList, gLt, gMM, gMod, gMul, gMulS, gNe, gNotIn, gPow, gSorted, gSub, gIadd, gSum, gTuple, puts, sV, sVs, slotM, wAnd, wApp, wAsg, wAug, wAugI, wB, wC, wCall, wCallR, wChain, wCons, wDraw, wDrop, wEnL, wEnT, wExt, wFn, wFnO, wFor, wGCons, wGNil, wGT, wIL, wIT, wIf, wIfS, wIsi, wIx, wLc, wLst, wMNil, wMO, wMV, wMix, wN, wNeg, wNil, wNot, wNotT, wO, wOp, wOr, wOwn, wPar, wR1, wR2, wRaise, wRaiseF, wRet, wSeq, wSet, wSetI, wSkip, wTAnd, wTNot, wTOr, wTru, wTry, wTryF, wTup, wV, wYes, startS, List.length_cons, List.length_nil, List.map_cons, List.map_nil, List.getElem?_cons_zero, List.getElem?_cons_succ, List.set_cons_zero, List.set_cons_succ, List.cons_append, List.nil_append, List.append_nil, List.replicate_succ, List.replicate_zero, Nat.reduceAdd, Nat.reduceSub, ↓reduceIte, Bool.false_eq_true, reduceCtorEq, true_and, and_true, true_or, or_true, false_or, or_false, Bool.not_true, Bool.not_false, Bool.true_and, Bool.false_and, Bool.and_true, decide_eq_true_eq, Bool.not_eq_eq_eq_not, exists_eq_left, exists_eq_left', Option.some.injEq, sp_is_from_eq]
  refine ⟨w, x, rfl, o, ?_⟩
  have hi : inR (.int (m : Int)) 0 1000000000000000000000000000000 = true := by
    have h1 : (0 : Int) ≤ m := Int.natCast_nonneg m
    have h2 : (m : Int) ≤ 1000000000000000000000000000000 := by omega
    simp only [inR, decide_eq_true h1, decide_eq_true h2]
    rfl
  simp only [hi, startS, List.length_cons, List.length_nil, List.map_cons, List.map_nil, List.getElem?_cons_zero, List.getElem?_cons_succ, List.set_cons_zero, List.set_cons_succ, List.cons_append, List.nil_append, List.append_nil, List.replicate_succ, List.replicate_zero, Nat.reduceAdd, Nat.reduceSub, ↓reduceIte, Bool.false_eq_true, reduceCtorEq, true_and, and_true, true_or, or_true, false_or, or_false, Bool.not_true, Bool.not_false, Bool.true_and, Bool.false_and, Bool.and_true, decide_eq_true_eq, Bool.not_eq_eq_eq_not, exists_eq_left, exists_eq_left', Option.some.injEq, eT, eH, at_p0]
  refine ⟨by simp [typD], _, ints?_map [(x : Int), ((w - x : Nat) : Int)], end_use o fun e he => ?_⟩
  rw [sum_T hle]
  have tail : (∀ i, i ≤ m → ¬ w ∣ x * 2 ^ i) → CMulW (x : Int) ((2 ^ m % w : Nat) : Int) ∧ (w : Int) ≠ 0 ∧ 2 ≤ sizeLine ∧ A (.tuple [.int (((x : Int) * ((2 ^ m % w : Nat) : Int)).fmod (w : Int)), .int ((w : Int) - ((x : Int) * ((2 ^ m % w : Nat) : Int)).fmod (w : Int))]) := fun hno => by
    have hlt : 2 ^ m % w < w := Nat.mod_lt _ (by omega)
    refine ⟨mul_nat (by omega) (by omega), n0, by decide, ?_⟩
    have e1 : ((x : Int) * ((2 ^ m % w : Nat) : Int)).fmod (w : Int) = ((x * 2 ^ m % w : Nat) : Int) := by
      rw [← Int.natCast_mul, fmod_nat, Nat.mul_mod_mod]
    rw [e1]
    have hlt2 : x * 2 ^ m % w < w := Nat.mod_lt _ (by omega)
    have e2 : (w : Int) - ((x * 2 ^ m % w : Nat) : Int) = ((w - x * 2 ^ m % w : Nat) : Int) := by omega
    rw [e2]
    have q := hA m ⟨Nat.le_refl m, fun i hi => hno i (Nat.le_of_lt hi), .inl rfl⟩
    unfold st at q
    by_cases c : m = 0
    · subst c
      rw [if_pos rfl] at q
      have hx : x < w := by
        have := hno 0 (Nat.le_refl 0)
        rw [Nat.pow_zero, Nat.mul_one] at this
        rcases Nat.lt_or_ge x w with z | z
        · exact z
        · exact absurd (by have e : x = w := by omega
                           rw [e]
                           exact Nat.dvd_refl w) this
      rw [Nat.pow_zero, Nat.mul_one, Nat.mod_eq_of_lt hx]
      exact q
    · rw [if_neg c] at q
      exact q
  cases e with
  | none =>
    simp only [eO, bl?, g2, gAdd, gDiv, gEq, gGe, gGt, gI, gIn, gInt, gIs, gIsNot, gLe, gLen, gList, gLt, gMM, gMod, gMul, gMulS, gNe, gNotIn, gPow, gSorted, gSub, gIadd, gSum, gTuple, puts, sV, sVs, slotM, wAnd, wApp, wAsg, wAug, wAugI, wB, wC, wCall, wCallR, wChain, wCons, wDraw, wDrop, wEnL, wEnT, wExt, wFn, wFnO, wFor, wGCons, wGNil, wGT, wIL, wIT, wIf, wIfS, wIsi, wIx, wLc, wLst, wMNil, wMO, wMV, wMix, wN, wNeg, wNil, wNot, wNotT, wO, wOp, wOr, wOwn, wPar, wR1, wR2, wRaise, wRaiseF, wRet, wSeq, wSet, wSetI, wSkip, wTAnd, wTNot, wTOr, wTru, wTry, wTryF, wTup, wV, wYes, startS, List.length_cons, List.length_nil, List.map_cons, List.map_nil, List.getElem?_cons_zero, List.getElem?_cons_succ, List.set_cons_zero, List.set_cons_succ, List.cons_append, List.nil_append, List.append_nil, List.replicate_succ, List.replicate_zero, Nat.reduceAdd, Nat.reduceSub, ↓reduceIte, Bool.false_eq_true, reduceCtorEq, true_and, and_true, true_or, or_true, false_or, or_false, Bool.not_true, Bool.not_false, Bool.true_and, Bool.false_and, Bool.and_true, decide_eq_true_eq, Bool.not_eq_eq_eq_not, exists_eq_left, exists_eq_left', Option.some.injEq]
    exact power_use hpos hb (tail fun i _ => he i)
  | some k =>
    obtain ⟨k1, k2⟩ := he
    simp only [eO, bl?, g2, gAdd, gDiv, gEq, gGe, gGt, gI, gIn, gInt, gIs, gIsNot, gLe, gLen, gList, gLt, gMM, gMod, gMul, gMulS, gNe, gNotIn, gPow, gSorted, gSub, gIadd, gSum, gTuple, puts, sV, sVs, slotM, wAnd, wApp, wAsg, wAug, wAugI, wB, wC, wCall, wCallR, wChain, wCons, wDraw, wDrop, wEnL, wEnT, wExt, wFn, wFnO, wFor, wGCons, wGNil, wGT, wIL, wIT, wIf, wIfS, wIsi, wIx, wLc, wLst, wMNil, wMO, wMV, wMix, wN, wNeg, wNil, wNot, wNotT, wO, wOp, wOr, wOwn, wPar, wR1, wR2, wRaise, wRaiseF, wRet, wSeq, wSet, wSetI, wSkip, wTAnd, wTNot, wTOr, wTru, wTry, wTryF, wTup, wV, wYes, startS, List.length_cons, List.length_nil, List.map_cons, List.map_nil, List.getElem?_cons_zero, List.getElem?_cons_succ, List.set_cons_zero, List.set_cons_succ, List.cons_append, List.nil_append, List.append_nil, List.replicate_succ, List.replicate_zero, Nat.reduceAdd, Nat.reduceSub, ↓reduceIte, Bool.false_eq_true, reduceCtorEq, true_and, and_true, true_or, or_true, false_or, or_false, Bool.not_true, Bool.not_false, Bool.true_and, Bool.false_and, Bool.and_true, decide_eq_true_eq, Bool.not_eq_eq_eq_not, exists_eq_left, exists_eq_left', Option.some.injEq]
    by_cases c : k ≤ m
    · have c' : (k : Int) ≤ m := by omega
      have q := hA k ⟨c, k2, .inr k1⟩
      simp only [c', decide_true, startS, List.length_cons, List.length_nil, List.map_cons, List.map_nil, List.getElem?_cons_zero, List.getElem?_cons_succ, List.set_cons_zero, List.set_cons_succ, List.cons_append, List.nil_append, List.append_nil, List.replicate_succ, List.replicate_zero, Nat.reduceAdd, Nat.reduceSub, ↓reduceIte, Bool.false_eq_true, reduceCtorEq, true_and, and_true, true_or, or_true, false_or, or_false, Bool.not_true, Bool.not_false, Bool.true_and, Bool.false_and, Bool.and_true, decide_eq_true_eq, Bool.not_eq_eq_eq_not, exists_eq_left, exists_eq_left', Option.some.injEq, shaped_int, eqv_int]
      unfold st at q
      by_cases c0 : k = 0
      · subst c0
        rw [if_pos rfl] at q
        simp only [Int.natCast_zero, decide_true, startS, List.length_cons, List.length_nil, List.map_cons, List.map_nil, List.getElem?_cons_zero, List.getElem?_cons_succ, List.set_cons_zero, List.set_cons_succ, List.cons_append, List.nil_append, List.append_nil, List.replicate_succ, List.replicate_zero, Nat.reduceAdd, Nat.reduceSub, ↓reduceIte, Bool.false_eq_true, reduceCtorEq, true_and, and_true, true_or, or_true, false_or, or_false, Bool.not_true, Bool.not_false, Bool.true_and, Bool.false_and, Bool.and_true, decide_eq_true_eq, Bool.not_eq_eq_eq_not, exists_eq_left, exists_eq_left', Option.some.injEq]
        exact q
      · have c2 : ¬ (k : Int) = 0 := by omega
        rw [if_neg c0, Nat.mod_eq_zero_of_dvd k1] at q
        unfold eT at q
        simp only [c2, decide_false, startS, List.length_cons, List.length_nil, List.map_cons, List.map_nil, List.getElem?_cons_zero, List.getElem?_cons_succ, List.set_cons_zero, List.set_cons_succ, List.cons_append, List.nil_append, List.append_nil, List.replicate_succ, List.replicate_zero, Nat.reduceAdd, Nat.reduceSub, ↓reduceIte, Bool.false_eq_true, reduceCtorEq, true_and, and_true, true_or, or_true, false_or, or_false, Bool.not_true, Bool.not_false, Bool.true_and, Bool.false_and, Bool.and_true, decide_eq_true_eq, Bool.not_eq_eq_eq_not, exists_eq_left, exists_eq_left', Option.some.injEq]
        rw [Nat.sub_zero] at q
        exact ⟨by decide, q⟩
    · have c' : ¬ (k : Int) ≤ m := by omega
      simp only [c', decide_false, startS, List.length_cons, List.length_nil, List.map_cons, List.map_nil, List.getElem?_cons_zero, List.getElem?_cons_succ, List.set_cons_zero, List.set_cons_succ, List.cons_append, List.nil_append, List.append_nil, List.replicate_succ, List.replicate_zero, Nat.reduceAdd, Nat.reduceSub, ↓reduceIte, Bool.false_eq_true, reduceCtorEq, true_and, and_true, true_or, or_true, false_or, or_false, Bool.not_true, Bool.not_false, Bool.true_and, Bool.false_and, Bool.and_true, decide_eq_true_eq, Bool.not_eq_eq_eq_not, exists_eq_left, exists_eq_left', Option.some.injEq]
      exact power_use hpos hb (tail fun i hi => k2 i (by omega))

def sp_ends_after : Spc := fun ds A _ => ∃ w x, ds = [eT w x] ∧ OkT w x ∧ ∀ e, EndIs w x e → A (eO e)

def w_ends_after : WS :=
    (wSeq (wDrop (wCall sp_check_two (wCons (wV 0) wNil)))
    (wRet (wCall sp_end_of (wCons (wV 0) wNil))))
theorem pure_ends_after : Pure 1 1 sp_ends_after w_ends_after := by
  rintro ds A B - ⟨w, x, rfl, o, hA⟩
  simp only [w_ends_after, bl?, g2, gAdd, gDiv, gEq, gGe, gGt, gI, gIn, gInt, gIs, gIsNot, gLe, gLen, gList, gLt, gMM, gMod, gMul, gMulS, gNe, gNotIn, gPow, gSorted, gSub, gIadd, gSum, gTuple, puts, sV, sVs, slotM, wAnd, wApp, wAsg, wAug, wAugI, wB, wC, wCall, wCallR, wChain, wCons, wDraw, wDrop, wEnL, wEnT, wExt, wFn, wFnO, wFor, wGCons, wGNil, wGT, wIL, wIT, wIf, wIfS, wIsi, wIx, wLc, wLst, wMNil, wMO, wMV, wMix, wN, wNeg, wNil, wNot, wNotT, wO, wOp, wOr, wOwn, wPar, wR1, wR2, wRaise, wRaiseF, wRet, wSeq, wSet, wSetI, wSkip, wTAnd, wTNot, wTOr, wTru, wTry, wTryF, wTup, wV, wYes, startS, List.length_cons, List.length_nil, List.map_cons, List.map_nil, List.getElem?_cons_zero, List.getElem?_cons_succ, List.set_cons_zero, List.set_cons_succ, List.cons_append, List.nil_append, List.append_nil, List.replicate_succ, List.replicate_zero, Nat.reduceAdd, Nat.reduceSub, ↓reduceIte, Bool.false_eq_true, reduceCtorEq, true_and, and_true, true_or, or_true, false_or, or_false, Bool.not_true, Bool.not_false, Bool.true_and, Bool.false_and, Bool.and_true, decide_eq_true_eq, Bool.not_eq_eq_eq_not, exists_eq_left, exists_eq_left', Option.some.injEq]
  exact ⟨w, x, rfl, o, end_use o hA⟩
/-- tail and ring -/
structure RingIs (w x f r : Nat) : Prop where
  ex : ∃ l, w / Nat.gcd x (w - x) = l * 2 ^ f ∧ l % 2 = 1 ∧ l ≠ 1 ∧ Nt.IsRing l r
def sp_tail_and_ring : Spc := fun ds A B => ∃ w x, ds = [eT w x] ∧ OkT w x ∧ (1000000 < w → B ("TooGreat", [])) ∧ (w ≤ 1000000 → (∀ e, EndIs w x (some e) → A (.tuple [.int (e : Int), .int 0])) ∧ ∀ f r, RingIs w x f r → A (.tuple [.int (f : Int), .int (r : Int)]))

def w_tail_and_ring : WS :=
    (wSeq (wDrop (wCall sp_check_two (wCons (wV 0) wNil)))
    (wSeq (wSet 1 (wFn gSum (wCons (wV 0) wNil)))
    (wSeq (wIfS (wB (wOp gGt (wV 1) (wC (.int 1000000)))) (wRaise "TooGreat") wSkip)
    (wSeq (wSet 2 (wCall sp_end_of (wCons (wV 0) wNil)))
    (wSeq (wIfS (wB (wOp gIsNot (wV 2) (wC .none))) (wRet (wTup (wCons (wV 2) (wCons (wC (.int 0)) wNil)))) wSkip)
    (wSeq (wSet 3 (wOp gDiv (wV 1) (wCall sp_common (wCons (wIx (wV 0) (wC (.int 0))) (wCons (wIx (wV 0) (wC (.int 1))) wNil)))))
    (wSeq (wSet 4 (wC (.int 0)))
    (wSeq (wWh (wB (wOp gEq (wOp gMod (wV 3) (wC (.int 2))) (wC (.int 0)))) (wSeq (wAug 3 gDiv (wC (.int 2)))
    (wAug 4 gIadd (wC (.int 1)))))
    (wSeq (wPar 5 6 (wCons (wC (.int 1)) (wCons (wOp gMod (wC (.int 2)) (wV 3)) wNil)))
    (wSeq (wWh (wB (wOp gNe (wV 6) (wC (.int 1)))) (wSeq (wSet 6 (wOp gMod (wOp gMul (wV 6) (wC (.int 2))) (wV 3)))
    (wAug 5 gIadd (wC (.int 1)))))
    (wRet (wTup (wCons (wV 4) (wCons (wV 5) wNil))))))))))))))
theorem pure_tail_and_ring : Pure 7 1 sp_tail_and_ring w_tail_and_ring := by
  rintro ds A B - ⟨w, x, rfl, o, hB, hA⟩
  have hle := o.le
  have hpos := o.pos
  obtain ⟨hq, hg⟩ := quot_pos o
  have ql : w / Nat.gcd x (w - x) ≤ w := Nat.div_le_self _ _
  simp only [w_tail_and_ring, bl?, g2, gAdd, gDiv, gEq, gGe, gGt, gI, gIn, gInt, gIs, gIsNot, gLe, gLen, gList, gLt, gMM, gMod, gMul, gMulS, gNe, gNotIn, gPow, gSorted, gSub, gIadd, gSum, gTuple, puts, sV, sVs, slotM, wAnd, wApp, wAsg, wAug, wAugI, wB, wC, wCall, wCallR, wChain, wCons, wDraw, wDrop, wEnL, wEnT, wExt, wFn, wFnO, wFor, wGCons, wGNil, wGT, wIL, wIT, wIf, wIfS, wIsi, wIx, wLc, wLst, wMNil, wMO, wMV, wMix, wN, wNeg, wNil, wNot, wNotT, wO, wOp, wOr, wOwn, wPar, wR1, wR2, wRaise, wRaiseF, wRet, wSeq, wSet, wSetI, wSkip, wTAnd, wTNot, wTOr, wTru, wTry, wTryF, wTup, wV, wYes, startS, List.length_cons, List.length_nil, List.map_cons, List.map_nil, List.getElem?_cons_zero, List.getElem?_cons_succ, List.set_cons_zero, List.set_cons_succ, List.cons_append, List.nil_append, List.append_nil, List.replicate_succ, List.replicate_zero, Nat.reduceAdd, Nat.reduceSub, ↓reduceIte, Bool.false_eq_true, reduceCtorEq, true_and, and_true, true_or, or_true, false_or, or_false, Bool.not_true, Bool.not_false, Bool.true_and, Bool.false_and, Bool.and_true, decide_eq_true_eq, Bool.not_eq_eq_eq_not, exists_eq_left, exists_eq_left', Option.some.injEq]
  refine ⟨w, x, rfl, o, ?_⟩
  simp only [startS, List.length_cons, List.length_nil, List.map_cons, List.map_nil, List.getElem?_cons_zero, List.getElem?_cons_succ, List.set_cons_zero, List.set_cons_succ, List.cons_append, List.nil_append, List.append_nil, List.replicate_succ, List.replicate_zero, Nat.reduceAdd, Nat.reduceSub, ↓reduceIte, Bool.false_eq_true, reduceCtorEq, true_and, and_true, true_or, or_true, false_or, or_false, Bool.not_true, Bool.not_false, Bool.true_and, Bool.false_and, Bool.and_true, decide_eq_true_eq, Bool.not_eq_eq_eq_not, exists_eq_left, exists_eq_left', Option.some.injEq, eT, eH, at_p0, at_p1]
  refine ⟨_, ints?_map [(x : Int), ((w - x : Nat) : Int)], ?_⟩
  rw [sum_T hle]
  by_cases c : 1000000 < w
  · have c' : (1000000 : Int) < w := by omega
    simp only [c', decide_true, startS, List.length_cons, List.length_nil, List.map_cons, List.map_nil, List.getElem?_cons_zero, List.getElem?_cons_succ, List.set_cons_zero, List.set_cons_succ, List.cons_append, List.nil_append, List.append_nil, List.replicate_succ, List.replicate_zero, Nat.reduceAdd, Nat.reduceSub, ↓reduceIte, Bool.false_eq_true, reduceCtorEq, true_and, and_true, true_or, or_true, false_or, or_false, Bool.not_true, Bool.not_false, Bool.true_and, Bool.false_and, Bool.and_true, decide_eq_true_eq, Bool.not_eq_eq_eq_not, exists_eq_left, exists_eq_left', Option.some.injEq]
    exact hB c
  · have c' : ¬ (1000000 : Int) < w := by omega
    obtain ⟨hE, hR⟩ := hA (by omega)
    simp only [c', decide_false, startS, List.length_cons, List.length_nil, List.map_cons, List.map_nil, List.getElem?_cons_zero, List.getElem?_cons_succ, List.set_cons_zero, List.set_cons_succ, List.cons_append, List.nil_append, List.append_nil, List.replicate_succ, List.replicate_zero, Nat.reduceAdd, Nat.reduceSub, ↓reduceIte, Bool.false_eq_true, reduceCtorEq, true_and, and_true, true_or, or_true, false_or, or_false, Bool.not_true, Bool.not_false, Bool.true_and, Bool.false_and, Bool.and_true, decide_eq_true_eq, Bool.not_eq_eq_eq_not, exists_eq_left, exists_eq_left', Option.some.injEq]
    refine end_use o fun e he => ?_
    cases e with
    | some k =>
      simp only [eO, flat, bl?, g2, gAdd, gDiv, gEq, gGe, gGt, gI, gIn, gInt, gIs, gIsNot, gLe, gLen, gList, gLt, gMM, gMod, gMul, gMulS, gNe, gNotIn, gPow, gSorted, gSub, gIadd, gSum, gTuple, puts, sV, sVs, slotM, wAnd, wApp, wAsg, wAug, wAugI, wB, wC, wCall, wCallR, wChain, wCons, wDraw, wDrop, wEnL, wEnT, wExt, wFn, wFnO, wFor, wGCons, wGNil, wGT, wIL, wIT, wIf, wIfS, wIsi, wIx, wLc, wLst, wMNil, wMO, wMV, wMix, wN, wNeg, wNil, wNot, wNotT, wO, wOp, wOr, wOwn, wPar, wR1, wR2, wRaise, wRaiseF, wRet, wSeq, wSet, wSetI, wSkip, wTAnd, wTNot, wTOr, wTru, wTry, wTryF, wTup, wV, wYes, startS, List.length_cons, List.length_nil, List.map_cons, List.map_nil, List.getElem?_cons_zero, List.getElem?_cons_succ, List.set_cons_zero, List.set_cons_succ, List.cons_append, List.nil_append, List.append_nil, List.replicate_succ, List.replicate_zero, Nat.reduceAdd, Nat.reduceSub, ↓reduceIte, Bool.false_eq_true, reduceCtorEq, true_and, and_true, true_or, or_true, false_or, or_false, Bool.not_true, Bool.not_false, Bool.true_and, Bool.false_and, Bool.and_true, decide_eq_true_eq, Bool.not_eq_eq_eq_not, exists_eq_left, exists_eq_left', Option.some.injEq]
      exact ⟨by decide, hE k he⟩
    | none =>
      have hgl : Nat.gcd x (w - x) ≤ w := by
        have q := Nat.dvd_add (Nat.gcd_dvd_left x (w - x)) (Nat.gcd_dvd_right x (w - x))
        have := Nat.le_of_dvd (by omega) q
        omega
      simp only [eO, flat, bl?, g2, gAdd, gDiv, gEq, gGe, gGt, gI, gIn, gInt, gIs, gIsNot, gLe, gLen, gList, gLt, gMM, gMod, gMul, gMulS, gNe, gNotIn, gPow, gSorted, gSub, gIadd, gSum, gTuple, puts, sV, sVs, slotM, wAnd, wApp, wAsg, wAug, wAugI, wB, wC, wCall, wCallR, wChain, wCons, wDraw, wDrop, wEnL, wEnT, wExt, wFn, wFnO, wFor, wGCons, wGNil, wGT, wIL, wIT, wIf, wIfS, wIsi, wIx, wLc, wLst, wMNil, wMO, wMV, wMix, wN, wNeg, wNil, wNot, wNotT, wO, wOp, wOr, wOwn, wPar, wR1, wR2, wRaise, wRaiseF, wRet, wSeq, wSet, wSetI, wSkip, wTAnd, wTNot, wTOr, wTru, wTry, wTryF, wTup, wV, wYes, startS, List.length_cons, List.length_nil, List.map_cons, List.map_nil, List.getElem?_cons_zero, List.getElem?_cons_succ, List.set_cons_zero, List.set_cons_succ, List.cons_append, List.nil_append, List.append_nil, List.replicate_succ, List.replicate_zero, Nat.reduceAdd, Nat.reduceSub, ↓reduceIte, Bool.false_eq_true, reduceCtorEq, true_and, and_true, true_or, or_true, false_or, or_false, Bool.not_true, Bool.not_false, Bool.true_and, Bool.false_and, Bool.and_true, decide_eq_true_eq, Bool.not_eq_eq_eq_not, exists_eq_left, exists_eq_left', Option.some.injEq]
      refine common_use ?_
      simp only [startS, List.length_cons, List.length_nil, List.map_cons, List.map_nil, List.getElem?_cons_zero, List.getElem?_cons_succ, List.set_cons_zero, List.set_cons_succ, List.cons_append, List.nil_append, List.append_nil, List.replicate_succ, List.replicate_zero, Nat.reduceAdd, Nat.reduceSub, ↓reduceIte, Bool.false_eq_true, reduceCtorEq, true_and, and_true, true_or, or_true, false_or, or_false, Bool.not_true, Bool.not_false, Bool.true_and, Bool.false_and, Bool.and_true, decide_eq_true_eq, Bool.not_eq_eq_eq_not, exists_eq_left, exists_eq_left', Option.some.injEq, div_nat, flat]
      refine ⟨divc_nat hg (by omega), ?_⟩
      have hR' : ∀ l f r : Nat, w / Nat.gcd x (w - x) = l * 2 ^ f → l % 2 = 1 → Nt.IsRing l r → A (.tuple [.int (f : Int), .int (r : Int)]) ∧ l ≠ 1 := fun l f r h1 h2 h3 => by
        have hl : l ≠ 1 := fun z => by
          have q := end_is o h1 h2
          rw [if_pos z] at q
          exact he f q.1
        exact ⟨hR f r ⟨l, h1, h2, hl, h3⟩, hl⟩
      generalize w / Nat.gcd x (w - x) = n at hR' hq ql
      refine ⟨n + 1, wh_ok (fun (s : Nat × Nat) S => ∃ s0 s1 s2 s5 s6, S = [s0, s1, s2, .im (.int (s.1 : Int)), .im (.int (s.2 : Int)), s5, s6] ∧ 1 ≤ s.1 ∧ n = s.1 * 2 ^ s.2) (fun s => s.1) ?_ (n + 1) (n, 0) _ (Nat.lt_succ_self n) ⟨_, _, _, _, _, rfl, hq, by rw [Nat.pow_zero, Nat.mul_one]⟩⟩
      rintro ⟨y, f⟩ S ⟨s0, s1, s2, s5, s6, rfl, hy, hn⟩ Nx hN
      have hy : 1 ≤ y := hy
      have hn : n = y * 2 ^ f := hn
      have e3 : ((y : Int).fmod 2) = ((y % 2 : Nat) : Int) := fmod_nat y 2
      have e4 : ((y : Int) / 2) = ((y / 2 : Nat) : Int) := rfl
      have d2 : CDivW (y : Int) 2 := ⟨by decide, by decide⟩
      simp only [bl?, g2, gAdd, gDiv, gEq, gGe, gGt, gI, gIn, gInt, gIs, gIsNot, gLe, gLen, gList, gLt, gMM, gMod, gMul, gMulS, gNe, gNotIn, gPow, gSorted, gSub, gIadd, gSum, gTuple, puts, sV, sVs, slotM, wAnd, wApp, wAsg, wAug, wAugI, wB, wC, wCall, wCallR, wChain, wCons, wDraw, wDrop, wEnL, wEnT, wExt, wFn, wFnO, wFor, wGCons, wGNil, wGT, wIL, wIT, wIf, wIfS, wIsi, wIx, wLc, wLst, wMNil, wMO, wMV, wMix, wN, wNeg, wNil, wNot, wNotT, wO, wOp, wOr, wOwn, wPar, wR1, wR2, wRaise, wRaiseF, wRet, wSeq, wSet, wSetI, wSkip, wTAnd, wTNot, wTOr, wTru, wTry, wTryF, wTup, wV, wYes, startS, List.length_cons, List.length_nil, List.map_cons, List.map_nil, List.getElem?_cons_zero, List.getElem?_cons_succ, List.set_cons_zero, List.set_cons_succ, List.cons_append, List.nil_append, List.append_nil, List.replicate_succ, List.replicate_zero, Nat.reduceAdd, Nat.reduceSub, ↓reduceIte, Bool.false_eq_true, reduceCtorEq, true_and, and_true, true_or, or_true, false_or, or_false, Bool.not_true, Bool.not_false, Bool.true_and, Bool.false_and, Bool.and_true, decide_eq_true_eq, Bool.not_eq_eq_eq_not, exists_eq_left, exists_eq_left', Option.some.injEq, e3, e4, shaped_int, eqv_int, flat]
      by_cases c : y % 2 = 0
      · have c' : (((y % 2 : Nat) : Int) = 0) := by omega
        simp only [c', decide_true, startS, List.length_cons, List.length_nil, List.map_cons, List.map_nil, List.getElem?_cons_zero, List.getElem?_cons_succ, List.set_cons_zero, List.set_cons_succ, List.cons_append, List.nil_append, List.append_nil, List.replicate_succ, List.replicate_zero, Nat.reduceAdd, Nat.reduceSub, ↓reduceIte, Bool.false_eq_true, reduceCtorEq, true_and, and_true, true_or, or_true, false_or, or_false, Bool.not_true, Bool.not_false, Bool.true_and, Bool.false_and, Bool.and_true, decide_eq_true_eq, Bool.not_eq_eq_eq_not, exists_eq_left, exists_eq_left', Option.some.injEq]
        refine ⟨by decide, d2, hN (y / 2, f + 1) _ (by show y / 2 < y; omega) ⟨s0, s1, s2, s5, s6, rfl, by show 1 ≤ y / 2; omega, ?_⟩⟩
        show n = y / 2 * 2 ^ (f + 1)
        rw [hn, Nat.pow_succ, Nat.mul_comm (2 ^ f) 2, ← Nat.mul_assoc]
        congr 1
        omega
      · have c' : ¬ (((y % 2 : Nat) : Int) = 0) := by omega
        have ho : y % 2 = 1 := by omega
        obtain ⟨R, hRing⟩ := Nt.ring_ex ho
        obtain ⟨hA', hl1⟩ := hR' y f R hn ho hRing
        have y2 : 2 ≤ y := by omega
        have yl : y ≤ n := by rw [hn]; exact Nat.le_mul_of_pos_right y (Nat.two_pow_pos f)
        have e5 : ((2 : Int).fmod y) = ((2 % y : Nat) : Int) := fmod_nat 2 y
        have ny : (y : Int) ≠ 0 := by omega
        simp only [c', decide_false, startS, List.length_cons, List.length_nil, List.map_cons, List.map_nil, List.getElem?_cons_zero, List.getElem?_cons_succ, List.set_cons_zero, List.set_cons_succ, List.cons_append, List.nil_append, List.append_nil, List.replicate_succ, List.replicate_zero, Nat.reduceAdd, Nat.reduceSub, ↓reduceIte, Bool.false_eq_true, reduceCtorEq, true_and, and_true, true_or, or_true, false_or, or_false, Bool.not_true, Bool.not_false, Bool.true_and, Bool.false_and, Bool.and_true, decide_eq_true_eq, Bool.not_eq_eq_eq_not, exists_eq_left, exists_eq_left', Option.some.injEq, e5, flats, flat, Bool.and_self]
        refine ⟨by decide, ny, ?_⟩
        refine ⟨R + 1, wh_ok (fun (s : Nat) S => ∃ s0 s1 s2, S = [s0, s1, s2, .im (.int (y : Int)), .im (.int (f : Int)), .im (.int (s : Int)), .im (.int ((2 ^ s % y : Nat) : Int))] ∧ 1 ≤ s ∧ s ≤ R ∧ ∀ d, 1 ≤ d → d < s → 2 ^ d % y ≠ 1) (fun s => R - s) ?_ (R + 1) 1 _ (by omega) ⟨_, _, _, rfl, Nat.le_refl 1, hRing.pos, fun d d1 d2 => by omega⟩⟩
        rintro s S ⟨s0, s1, s2, rfl, h1, h2, h3⟩ Nx hN
        have hlt : 2 ^ s % y < y := Nat.mod_lt _ (by omega)
        have e6 : (((2 ^ s % y : Nat) : Int) * 2).fmod y = ((2 ^ (s + 1) % y : Nat) : Int) := by
          have z : (((2 ^ s % y : Nat) : Int) * 2) = ((2 ^ s % y * 2 : Nat) : Int) := by rw [Int.natCast_mul]; rfl
          rw [z, fmod_nat, Nat.pow_succ, Nat.mod_mul_mod]
        simp only [bl?, g2, gAdd, gDiv, gEq, gGe, gGt, gI, gIn, gInt, gIs, gIsNot, gLe, gLen, gList, gLt, gMM, gMod, gMul, gMulS, gNe, gNotIn, gPow, gSorted, gSub, gIadd, gSum, gTuple, puts, sV, sVs, slotM, wAnd, wApp, wAsg, wAug, wAugI, wB, wC, wCall, wCallR, wChain, wCons, wDraw, wDrop, wEnL, wEnT, wExt, wFn, wFnO, wFor, wGCons, wGNil, wGT, wIL, wIT, wIf, wIfS, wIsi, wIx, wLc, wLst, wMNil, wMO, wMV, wMix, wN, wNeg, wNil, wNot, wNotT, wO, wOp, wOr, wOwn, wPar, wR1, wR2, wRaise, wRaiseF, wRet, wSeq, wSet, wSetI, wSkip, wTAnd, wTNot, wTOr, wTru, wTry, wTryF, wTup, wV, wYes, startS, List.length_cons, List.length_nil, List.map_cons, List.map_nil, List.getElem?_cons_zero, List.getElem?_cons_succ, List.set_cons_zero, List.set_cons_succ, List.cons_append, List.nil_append, List.append_nil, List.replicate_succ, List.replicate_zero, Nat.reduceAdd, Nat.reduceSub, ↓reduceIte, Bool.false_eq_true, reduceCtorEq, true_and, and_true, true_or, or_true, false_or, or_false, Bool.not_true, Bool.not_false, Bool.true_and, Bool.false_and, Bool.and_true, decide_eq_true_eq, Bool.not_eq_eq_eq_not, exists_eq_left, exists_eq_left', Option.some.injEq, shaped_int, eqv_int, e6, flat]
        by_cases c1 : 2 ^ s % y = 1
        · have c2 : (((2 ^ s % y : Nat) : Int) = 1) := by omega
          have es : s = R := by
            rcases Nat.lt_or_ge s R with z | z
            · exact absurd ((Nt.one_iff y2).mp c1) (hRing.least s h1 z)
            · omega
          subst es
          simp only [c2, decide_true, startS, List.length_cons, List.length_nil, List.map_cons, List.map_nil, List.getElem?_cons_zero, List.getElem?_cons_succ, List.set_cons_zero, List.set_cons_succ, List.cons_append, List.nil_append, List.append_nil, List.replicate_succ, List.replicate_zero, Nat.reduceAdd, Nat.reduceSub, ↓reduceIte, Bool.false_eq_true, reduceCtorEq, true_and, and_true, true_or, or_true, false_or, or_false, Bool.not_true, Bool.not_false, Bool.true_and, Bool.false_and, Bool.and_true, decide_eq_true_eq, Bool.not_eq_eq_eq_not, exists_eq_left, exists_eq_left', Option.some.injEq]
          exact ⟨by decide, hA'⟩
        · have c2 : ¬ (((2 ^ s % y : Nat) : Int) = 1) := by omega
          have sR : s < R := by
            rcases Nat.lt_or_ge s R with z | z
            · exact z
            · have e : s = R := by omega
              exact absurd ((Nt.one_iff y2).mpr (e ▸ hRing.dv)) c1
          simp only [c2, decide_false, startS, List.length_cons, List.length_nil, List.map_cons, List.map_nil, List.getElem?_cons_zero, List.getElem?_cons_succ, List.set_cons_zero, List.set_cons_succ, List.cons_append, List.nil_append, List.append_nil, List.replicate_succ, List.replicate_zero, Nat.reduceAdd, Nat.reduceSub, ↓reduceIte, Bool.false_eq_true, reduceCtorEq, true_and, and_true, true_or, or_true, false_or, or_false, Bool.not_true, Bool.not_false, Bool.true_and, Bool.false_and, Bool.and_true, decide_eq_true_eq, Bool.not_eq_eq_eq_not, exists_eq_left, exists_eq_left', Option.some.injEq]
          refine ⟨mul_nat (y := 2) (by omega) (by decide), ny, hN (s + 1) _ (by show R - (s + 1) < R - s; omega) ⟨s0, s1, s2, rfl, by omega, by omega, fun d d1 d2 => ?_⟩⟩
          rcases Nat.lt_or_ge d s with z | z
          · exact h3 d d1 z
          · have e : d = s := by omega
            rw [e]
            exact c1
end Pu


namespace Pu
open PySem L2
def m_TooGreat : Str → Option Bool := fun x => if x = "TooGreat" then some true else none
/-! ### one step of two heaps -/
theorem double {w x : Nat} (h1 : 0 < x) (h2 : x < w) : beh [(x : Int), ((w - x : Nat) : Int)] (if w - x ≤ x then (0, 1) else (1, 0)) = [((x * 2 % w : Nat) : Int), ((w - x * 2 % w : Nat) : Int)] := by
  by_cases c : w - x ≤ x
  · rw [if_pos c]
    have e : x * 2 % w = x * 2 - w := by
      rw [Nat.mod_eq_sub_mod (by omega), Nat.mod_eq_of_lt (by omega)]
    show [(x : Int) - ((w - x : Nat) : Int), ((w - x : Nat) : Int) + ((w - x : Nat) : Int)] = _
    rw [e]
    simp only [List.cons.injEq, and_true]
    constructor <;> omega
  · rw [if_neg c]
    have e : x * 2 % w = x * 2 := Nat.mod_eq_of_lt (by omega)
    show [(x : Int) + (x : Int), ((w - x : Nat) : Int) - (x : Int)] = _
    rw [e]
    simp only [List.cons.injEq, and_true]
    constructor <;> omega
def sp_law_next_pair : Spc := fun ds A _ => ∃ w x : Nat, ds = [eT w x] ∧ 0 < x ∧ x < w ∧ A (eT w (x * 2 % w))

def w_law_next_pair : WS :=
    (wRet (wCall sp_law_behind (wCons (wV 0) (wCons (wIf (wB (wOp gGe (wIx (wV 0) (wC (.int 0))) (wIx (wV 0) (wC (.int 1))))) (wTup (wCons (wC (.int 0)) (wCons (wC (.int 1)) wNil))) (wTup (wCons (wC (.int 1)) (wCons (wC (.int 0)) wNil)))) wNil))))
theorem pure_law_next_pair : Pure 1 1 sp_law_next_pair w_law_next_pair := by
  rintro ds A B - ⟨w, x, rfl, h1, h2, hA⟩
  have hd := double h1 h2
  simp only [w_law_next_pair, bl?, g2, gAdd, gDiv, gEq, gGe, gGt, gI, gIn, gInt, gIs, gIsNot, gLe, gLen, gList, gLt, gMM, gMod, gMul, gMulS, gNe, gNotIn, gPow, gSorted, gSub, gIadd, gSum, gTuple, puts, sV, sVs, slotM, wAnd, wApp, wAsg, wAug, wAugI, wB, wC, wCall, wCallR, wChain, wCons, wDraw, wDrop, wEnL, wEnT, wExt, wFn, wFnO, wFor, wGCons, wGNil, wGT, wIL, wIT, wIdx, wIf, wIfS, wIsi, wIx, wLc, wLst, wMNil, wMO, wMV, wMix, wN, wNeg, wNil, wNot, wNotT, wO, wOp, wOr, wOwn, wPar, wR1, wR2, wRaise, wRaiseF, wRet, wSeq, wSet, wSetI, wSkip, wTAnd, wTNot, wTOr, wTru, wTry, wTryF, wTup, wV, wYes, startS, List.length_cons, List.length_nil, List.map_cons, List.map_nil, List.getElem?_cons_zero, List.getElem?_cons_succ, List.set_cons_zero, List.set_cons_succ, List.cons_append, List.nil_append, List.append_nil, List.replicate_succ, List.replicate_zero, Nat.reduceAdd, Nat.reduceSub, ↓reduceIte, Bool.false_eq_true, reduceCtorEq, true_and, and_true, true_or, or_true, false_or, or_false, Bool.not_true, Bool.not_false, Bool.true_and, Bool.false_and, Bool.and_true, decide_eq_true_eq, Bool.not_eq_eq_eq_not, exists_eq_left, exists_eq_left', Option.some.injEq, eT, eH, at_p0, at_p1]
  have ec : (((w - x : Nat) : Int) ≤ (x : Int)) ↔ w - x ≤ x := by omega
  simp only [ec]
  by_cases c : w - x ≤ x
  · rw [if_pos c] at hd
    simp only [c, startS, List.length_cons, List.length_nil, List.map_cons, List.map_nil, List.getElem?_cons_zero, List.getElem?_cons_succ, List.set_cons_zero, List.set_cons_succ, List.cons_append, List.nil_append, List.append_nil, List.replicate_succ, List.replicate_zero, Nat.reduceAdd, Nat.reduceSub, ↓reduceIte, Bool.false_eq_true, reduceCtorEq, true_and, and_true, true_or, or_true, false_or, or_false, Bool.not_true, Bool.not_false, Bool.true_and, Bool.false_and, Bool.and_true, decide_eq_true_eq, Bool.not_eq_eq_eq_not, exists_eq_left, exists_eq_left', Option.some.injEq]
    refine ⟨by decide, [(x : Int), ((w - x : Nat) : Int)], (0, 1), rfl, (show 0 < 2 by decide), (show 1 < 2 by decide), ?_⟩
    rw [hd]
    exact hA
  · rw [if_neg c] at hd
    simp only [c, startS, List.length_cons, List.length_nil, List.map_cons, List.map_nil, List.getElem?_cons_zero, List.getElem?_cons_succ, List.set_cons_zero, List.set_cons_succ, List.cons_append, List.nil_append, List.append_nil, List.replicate_succ, List.replicate_zero, Nat.reduceAdd, Nat.reduceSub, ↓reduceIte, Bool.false_eq_true, reduceCtorEq, true_and, and_true, true_or, or_true, false_or, or_false, Bool.not_true, Bool.not_false, Bool.true_and, Bool.false_and, Bool.and_true, decide_eq_true_eq, Bool.not_eq_eq_eq_not, exists_eq_left, exists_eq_left', Option.some.injEq]
    refine ⟨by decide, [(x : Int), ((w - x : Nat) : Int)], (1, 0), rfl, (show 1 < 2 by decide), (show 0 < 2 by decide), ?_⟩
    rw [hd]
    exact hA
/-- is one of the two empty -/
theorem min_T {w x : Nat} (h : x ≤ w) : (List.foldl min (x : Int) [((w - x : Nat) : Int)] = 0) ↔ (x = 0 ∨ x = w) := by
  show (min (x : Int) ((w - x : Nat) : Int) = 0) ↔ _
  omega
theorem st_zero {w x t : Nat} (o : OkT w x) : (st w x t = 0 ∨ st w x t = w) ↔ w ∣ x * 2 ^ t := by
  have hl := o.le
  have hp := o.pos
  unfold st
  by_cases c : t = 0
  · subst c
    rw [if_pos rfl, Nat.pow_zero, Nat.mul_one]
    constructor
    · rintro (z | z)
      · rw [z]; exact Nat.dvd_zero w
      · rw [z]; exact Nat.dvd_refl w
    · intro q
      rcases Nat.lt_or_ge x w with z | z
      · exact .inl (Nat.eq_zero_of_dvd_of_lt q z)
      · exact .inr (by omega)
  · rw [if_neg c]
    have hlt : x * 2 ^ t % w < w := Nat.mod_lt _ (by omega)
    constructor
    · rintro (z | z)
      · exact Nat.dvd_of_mod_eq_zero z
      · omega
    · intro q
      exact .inl (Nat.mod_eq_zero_of_dvd q)
theorem st_le {w x t : Nat} (o : OkT w x) : st w x t ≤ w := by
  unfold st
  split
  · exact o.le
  · exact Nat.le_of_lt (Nat.mod_lt _ (by have := o.pos; omega))
theorem st_next {w x t : Nat} : st w x t * 2 % w = st w x (t + 1) := by
  unfold st
  rw [if_neg (by omega : ¬ t + 1 = 0), Nat.pow_succ, ← Nat.mul_assoc]
  by_cases c : t = 0
  · subst c
    simp
  · rw [if_neg c, Nat.mod_mul_mod]
def sp_law_walk : Spc := fun ds A _ => ∃ w x m : Nat, ds = [eT w x, .int m] ∧ OkT w x ∧ m ≤ 1000000 ∧ ∀ t, StopAt w x m t → A (.tuple [eT w (st w x t), .int (t : Int)])

def w_law_walk : WS :=
    (wSeq (wFor (wR1 (wCons (wV 1) wNil)) (wN 2) (wSeq (wIfS (wB (wOp gEq (wFn (gMM min) (wCons (wV 0) wNil)) (wC (.int 0)))) (wRet (wTup (wCons (wV 0) (wCons (wV 2) wNil)))) wSkip)
    (wSet 0 (wCall sp_law_next_pair (wCons (wV 0) wNil)))))
    (wRet (wTup (wCons (wV 0) (wCons (wV 1) wNil)))))
theorem pure_law_walk : Pure 3 2 sp_law_walk w_law_walk := by
  rintro ds A B - ⟨w, x, m, rfl, o, hm, hA⟩
  have e62 : (2 : Int) ^ 62 = 4611686018427387904 := by decide
  simp only [w_law_walk, bl?, g2, gAdd, gDiv, gEq, gGe, gGt, gI, gIn, gInt, gIs, gIsNot, gLe, gLen, gList, gLt, gMM, gMod, gMul, gMulS, gNe, gNotIn, gPow, gSorted, gSub, gIadd, gSum, gTuple, puts, sV, sVs, slotM, wAnd, wApp, wAsg, wAug, wAugI, wB, wC, wCall, wCallR, wChain, wCons, wDraw, wDrop, wEnL, wEnT, wExt, wFn, wFnO, wFor, wGCons, wGNil, wGT, wIL, wIT, wIdx, wIf, wIfS, wIsi, wIx, wLc, wLst, wMNil, wMO, wMV, wMix, wN, wNeg, wNil, wNot, wNotT, wO, wOp, wOr, wOwn, wPar, wR1, wR2, wRaise, wRaiseF, wRet, wSeq, wSet, wSetI, wSkip, wTAnd, wTNot, wTOr, wTru, wTry, wTryF, wTup, wV, wYes, startS, List.length_cons, List.length_nil, List.map_cons, List.map_nil, List.getElem?_cons_zero, List.getElem?_cons_succ, List.set_cons_zero, List.set_cons_succ, List.cons_append, List.nil_append, List.append_nil, List.replicate_succ, List.replicate_zero, Nat.reduceAdd, Nat.reduceSub, ↓reduceIte, Bool.false_eq_true, reduceCtorEq, true_and, and_true, true_or, or_true, false_or, or_false, Bool.not_true, Bool.not_false, Bool.true_and, Bool.false_and, Bool.and_true, decide_eq_true_eq, Bool.not_eq_eq_eq_not, exists_eq_left, exists_eq_left', Option.some.injEq]
  refine ⟨by omega, by omega, ?_⟩
  rw [rangeD0, Int.toNat_natCast]
  refine for_inv (fun r S => ∃ k s2, k ≤ m ∧ r = ((List.range m).drop k).map (fun (i : Nat) => PyData.int (i : Int)) ∧ S = [.im (eT w (st w x k)), .im (.int (m : Int)), s2] ∧ ∀ i, i < k → ¬ w ∣ x * 2 ^ i) _ _ ?_ ⟨0, .un, Nat.zero_le _, by simp, by simp [st], fun i hi => by omega⟩ ?_
  · rintro d r S ⟨k, s2, hk, er, rfl, hno⟩ Nx hN
    have hk' : k < m := by
      rcases Nat.lt_or_ge k m with c | c
      · exact c
      · rw [List.drop_eq_nil_of_le (by rw [List.length_range]; exact c)] at er
        cases er
    rw [List.drop_eq_getElem_cons (by rw [List.length_range]; exact hk'), List.getElem_range, List.map_cons] at er
    cases er
    have hle := st_le (t := k) o
    simp only [bl?, g2, gAdd, gDiv, gEq, gGe, gGt, gI, gIn, gInt, gIs, gIsNot, gLe, gLen, gList, gLt, gMM, gMod, gMul, gMulS, gNe, gNotIn, gPow, gSorted, gSub, gIadd, gSum, gTuple, puts, sV, sVs, slotM, wAnd, wApp, wAsg, wAug, wAugI, wB, wC, wCall, wCallR, wChain, wCons, wDraw, wDrop, wEnL, wEnT, wExt, wFn, wFnO, wFor, wGCons, wGNil, wGT, wIL, wIT, wIdx, wIf, wIfS, wIsi, wIx, wLc, wLst, wMNil, wMO, wMV, wMix, wN, wNeg, wNil, wNot, wNotT, wO, wOp, wOr, wOwn, wPar, wR1, wR2, wRaise, wRaiseF, wRet, wSeq, wSet, wSetI, wSkip, wTAnd, wTNot, wTOr, wTru, wTry, wTryF, wTup, wV, wYes, startS, List.length_cons, List.length_nil, List.map_cons, List.map_nil, List.getElem?_cons_zero, List.getElem?_cons_succ, List.set_cons_zero, List.set_cons_succ, List.cons_append, List.nil_append, List.append_nil, List.replicate_succ, List.replicate_zero, Nat.reduceAdd, Nat.reduceSub, ↓reduceIte, Bool.false_eq_true, reduceCtorEq, true_and, and_true, true_or, or_true, false_or, or_false, Bool.not_true, Bool.not_false, Bool.true_and, Bool.false_and, Bool.and_true, decide_eq_true_eq, Bool.not_eq_eq_eq_not, exists_eq_left, exists_eq_left', Option.some.injEq, flat_int, eT, eH]
    refine ⟨_, _, ints?_map [((st w x k : Nat) : Int), ((w - st w x k : Nat) : Int)], shaped_int _, shaped_int _, ?_⟩
    rw [eqv_int]
    by_cases c : w ∣ x * 2 ^ k
    · rw [if_pos (decide_eq_true ((min_T hle).mpr ((st_zero o).mpr c)))]
      exact ⟨by decide, hA k ⟨hk, hno, .inr c⟩⟩
    · have hz : ¬ (st w x k = 0 ∨ st w x k = w) := fun z => c ((st_zero o).mp z)
      rw [if_neg (by rw [decide_eq_false (fun z => hz ((min_T hle).mp z))]; exact Bool.false_ne_true)]
      refine ⟨w, st w x k, rfl, by omega, by omega, ?_⟩
      rw [st_next]
      refine hN _ ⟨k + 1, _, hk', rfl, rfl, fun i hi => ?_⟩
      rcases Nat.lt_or_ge i k with z | z
      · exact hno i z
      · have e : i = k := by omega
        rw [e]; exact c
  · rintro S ⟨k, s2, hk, er, rfl, hno⟩
    have hk' : k = m := by
      rcases Nat.lt_or_ge k m with c | c
      · rw [List.drop_eq_getElem_cons (by rw [List.length_range]; exact c)] at er
        cases er
      · omega
    subst hk'
    simp only [bl?, g2, gAdd, gDiv, gEq, gGe, gGt, gI, gIn, gInt, gIs, gIsNot, gLe, gLen, gList, gLt, gMM, gMod, gMul, gMulS, gNe, gNotIn, gPow, gSorted, gSub, gIadd, gSum, gTuple, puts, sV, sVs, slotM, wAnd, wApp, wAsg, wAug, wAugI, wB, wC, wCall, wCallR, wChain, wCons, wDraw, wDrop, wEnL, wEnT, wExt, wFn, wFnO, wFor, wGCons, wGNil, wGT, wIL, wIT, wIdx, wIf, wIfS, wIsi, wIx, wLc, wLst, wMNil, wMO, wMV, wMix, wN, wNeg, wNil, wNot, wNotT, wO, wOp, wOr, wOwn, wPar, wR1, wR2, wRaise, wRaiseF, wRet, wSeq, wSet, wSetI, wSkip, wTAnd, wTNot, wTOr, wTru, wTry, wTryF, wTup, wV, wYes, startS, List.length_cons, List.length_nil, List.map_cons, List.map_nil, List.getElem?_cons_zero, List.getElem?_cons_succ, List.set_cons_zero, List.set_cons_succ, List.cons_append, List.nil_append, List.append_nil, List.replicate_succ, List.replicate_zero, Nat.reduceAdd, Nat.reduceSub, ↓reduceIte, Bool.false_eq_true, reduceCtorEq, true_and, and_true, true_or, or_true, false_or, or_false, Bool.not_true, Bool.not_false, Bool.true_and, Bool.false_and, Bool.and_true, decide_eq_true_eq, Bool.not_eq_eq_eq_not, exists_eq_left, exists_eq_left', Option.some.injEq]
    exact ⟨by decide, hA k ⟨Nat.le_refl k, hno, .inl rfl⟩⟩

def sp_law_power : Spc := fun ds A _ => ∃ m n : Nat, ds = [.int m, .int n] ∧ m ≤ 1000000000000000000000000000000 ∧ 1 ≤ n ∧ n ≤ 2000000000000000000000000000000 ∧ ∀ v : Nat, v % n = 2 ^ m % n → v ≤ n → A (.int (v : Int))

def w_law_power : WS :=
    (wSeq (wMix [2, 3] (wMV (wC (.int 1)) (wMV (wC (.int 2)) wMNil)))
    (wSeq (wWh (wB (wOp gGt (wV 0) (wC (.int 0)))) (wSeq (wIfS (wB (wOp gNe (wOp gMul (wOp gDiv (wV 0) (wC (.int 2))) (wC (.int 2))) (wV 0))) (wSet 2 (wOp gMod (wFn gInt (wCons (wOp gMul (wV 2) (wV 3)) wNil)) (wV 1))) wSkip)
    (wPar 3 0 (wCons (wOp gMod (wFn gInt (wCons (wOp gMul (wV 3) (wV 3)) wNil)) (wV 1)) (wCons (wOp gDiv (wV 0) (wC (.int 2))) wNil)))))
    (wRet (wV 2))))
theorem pure_law_power : Pure 4 2 sp_law_power w_law_power := by
  rintro ds A B - ⟨m, n, rfl, hm, h1, h2, hA⟩
  have n0 : (n : Int) ≠ 0 := by omega
  simp only [w_law_power, bl?, g2, gAdd, gDiv, gEq, gGe, gGt, gI, gIn, gInt, gIs, gIsNot, gLe, gLen, gList, gLt, gMM, gMod, gMul, gMulS, gNe, gNotIn, gPow, gSorted, gSub, gIadd, gSum, gTuple, puts, sV, sVs, slotM, wAnd, wApp, wAsg, wAug, wAugI, wB, wC, wCall, wCallR, wChain, wCons, wDraw, wDrop, wEnL, wEnT, wExt, wFn, wFnO, wFor, wGCons, wGNil, wGT, wIL, wIT, wIdx, wIf, wIfS, wIsi, wIx, wLc, wLst, wMNil, wMO, wMV, wMix, wN, wNeg, wNil, wNot, wNotT, wO, wOp, wOr, wOwn, wPar, wR1, wR2, wRaise, wRaiseF, wRet, wSeq, wSet, wSetI, wSkip, wTAnd, wTNot, wTOr, wTru, wTry, wTryF, wTup, wV, wYes, startS, List.length_cons, List.length_nil, List.map_cons, List.map_nil, List.getElem?_cons_zero, List.getElem?_cons_succ, List.set_cons_zero, List.set_cons_succ, List.cons_append, List.nil_append, List.append_nil, List.replicate_succ, List.replicate_zero, Nat.reduceAdd, Nat.reduceSub, ↓reduceIte, Bool.false_eq_true, reduceCtorEq, true_and, and_true, true_or, or_true, false_or, or_false, Bool.not_true, Bool.not_false, Bool.true_and, Bool.false_and, Bool.and_true, decide_eq_true_eq, Bool.not_eq_eq_eq_not, exists_eq_left, exists_eq_left', Option.some.injEq]
  refine ⟨m + 1, wh_ok (fun (s : Nat × Nat × Nat) S => S = [.im (.int (s.1 : Int)), .im (.int (n : Int)), .im (.int (s.2.1 : Int)), .im (.int (s.2.2 : Int))] ∧ s.1 ≤ m ∧ s.2.1 ≤ n ∧ s.2.2 ≤ n + 2 ∧ s.2.1 * s.2.2 ^ s.1 % n = 2 ^ m % n) (fun s => s.1) ?_ (m + 1) (m, 1, 2) _ (Nat.lt_succ_self m) ⟨rfl, Nat.le_refl m, h1, by show 2 ≤ n + 2; omega, by show 1 * 2 ^ m % n = _; rw [Nat.one_mul]⟩⟩
  rintro ⟨x, f, b⟩ S ⟨rfl, hx0, hf, hb, he⟩ Nx hN
  have hx0 : x ≤ m := hx0
  have hf : f ≤ n := hf
  have hb : b ≤ n + 2 := hb
  have he : f * b ^ x % n = 2 ^ m % n := he
  by_cases c : x = 0
  · subst c
    rw [Nat.pow_zero, Nat.mul_one] at he
    simp only [bl?, g2, gAdd, gDiv, gEq, gGe, gGt, gI, gIn, gInt, gIs, gIsNot, gLe, gLen, gList, gLt, gMM, gMod, gMul, gMulS, gNe, gNotIn, gPow, gSorted, gSub, gIadd, gSum, gTuple, puts, sV, sVs, slotM, wAnd, wApp, wAsg, wAug, wAugI, wB, wC, wCall, wCallR, wChain, wCons, wDraw, wDrop, wEnL, wEnT, wExt, wFn, wFnO, wFor, wGCons, wGNil, wGT, wIL, wIT, wIdx, wIf, wIfS, wIsi, wIx, wLc, wLst, wMNil, wMO, wMV, wMix, wN, wNeg, wNil, wNot, wNotT, wO, wOp, wOr, wOwn, wPar, wR1, wR2, wRaise, wRaiseF, wRet, wSeq, wSet, wSetI, wSkip, wTAnd, wTNot, wTOr, wTru, wTry, wTryF, wTup, wV, wYes, startS, List.length_cons, List.length_nil, List.map_cons, List.map_nil, List.getElem?_cons_zero, List.getElem?_cons_succ, List.set_cons_zero, List.set_cons_succ, List.cons_append, List.nil_append, List.append_nil, List.replicate_succ, List.replicate_zero, Nat.reduceAdd, Nat.reduceSub, ↓reduceIte, Bool.false_eq_true, reduceCtorEq, true_and, and_true, true_or, or_true, false_or, or_false, Bool.not_true, Bool.not_false, Bool.true_and, Bool.false_and, Bool.and_true, decide_eq_true_eq, Bool.not_eq_eq_eq_not, exists_eq_left, exists_eq_left', Option.some.injEq]
    have q := hA f he hf
    simpa using q
  · have c1 : (0 : Int) < x := by omega
    have m1 : CMulW (f : Int) (b : Int) := mul_nat (by omega) (by omega)
    have m2 : CMulW (b : Int) (b : Int) := mul_nat (by omega) (by omega)
    have m3 : CMulW ((x / 2 : Nat) : Int) 2 := mul_nat (y := 2) (by omega) (by decide)
    have e4 : ((x : Int) / 2) = ((x / 2 : Nat) : Int) := rfl
    have d2 : CDivW (x : Int) 2 := ⟨by decide, by decide⟩
    have mb : ((f : Int) * b).fmod n = ((f * b % n : Nat) : Int) := fmod_nat (f * b) n
    have bb : ((b : Int) * b).fmod n = ((b * b % n : Nat) : Int) := fmod_nat (b * b) n
    have hpow : (b * b % n) ^ (x / 2) % n = b ^ (2 * (x / 2)) % n := by
      rw [← Nat.pow_mod, Nat.pow_mul, Nat.pow_two]
    have l1 : f * b % n ≤ n := Nat.le_of_lt (Nat.mod_lt _ (by omega))
    have l2 : b * b % n ≤ n + 2 := by have := Nat.mod_lt (b * b) (show 0 < n by omega); omega
    simp only [bl?, g2, gAdd, gDiv, gEq, gGe, gGt, gI, gIn, gInt, gIs, gIsNot, gLe, gLen, gList, gLt, gMM, gMod, gMul, gMulS, gNe, gNotIn, gPow, gSorted, gSub, gIadd, gSum, gTuple, puts, sV, sVs, slotM, wAnd, wApp, wAsg, wAug, wAugI, wB, wC, wCall, wCallR, wChain, wCons, wDraw, wDrop, wEnL, wEnT, wExt, wFn, wFnO, wFor, wGCons, wGNil, wGT, wIL, wIT, wIdx, wIf, wIfS, wIsi, wIx, wLc, wLst, wMNil, wMO, wMV, wMix, wN, wNeg, wNil, wNot, wNotT, wO, wOp, wOr, wOwn, wPar, wR1, wR2, wRaise, wRaiseF, wRet, wSeq, wSet, wSetI, wSkip, wTAnd, wTNot, wTOr, wTru, wTry, wTryF, wTup, wV, wYes, startS, List.length_cons, List.length_nil, List.map_cons, List.map_nil, List.getElem?_cons_zero, List.getElem?_cons_succ, List.set_cons_zero, List.set_cons_succ, List.cons_append, List.nil_append, List.append_nil, List.replicate_succ, List.replicate_zero, Nat.reduceAdd, Nat.reduceSub, ↓reduceIte, Bool.false_eq_true, reduceCtorEq, true_and, and_true, true_or, or_true, false_or, or_false, Bool.not_true, Bool.not_false, Bool.true_and, Bool.false_and, Bool.and_true, decide_eq_true_eq, Bool.not_eq_eq_eq_not, exists_eq_left, exists_eq_left', Option.some.injEq, c1, decide_true, e4, mb, bb, flat, flats, shaped_int, eqv_int]
    refine ⟨d2, m3, ?_⟩
    by_cases ho : x % 2 = 1
    · have ho' : ¬ (((x / 2 : Nat) : Int) * 2 = x) := by omega
      simp only [ho', decide_false, startS, List.length_cons, List.length_nil, List.map_cons, List.map_nil, List.getElem?_cons_zero, List.getElem?_cons_succ, List.set_cons_zero, List.set_cons_succ, List.cons_append, List.nil_append, List.append_nil, List.replicate_succ, List.replicate_zero, Nat.reduceAdd, Nat.reduceSub, ↓reduceIte, Bool.false_eq_true, reduceCtorEq, true_and, and_true, true_or, or_true, false_or, or_false, Bool.not_true, Bool.not_false, Bool.true_and, Bool.false_and, Bool.and_true, decide_eq_true_eq, Bool.not_eq_eq_eq_not, exists_eq_left, exists_eq_left', Option.some.injEq]
      refine ⟨m1, n0, m2, n0, d2, hN (x / 2, f * b % n, b * b % n) _ (by show x / 2 < x; omega) ⟨rfl, by show x / 2 ≤ m; omega, l1, l2, ?_⟩⟩
      show f * b % n * (b * b % n) ^ (x / 2) % n = 2 ^ m % n
      rw [← he, Nat.mul_mod, Nat.mod_mod, hpow, ← Nat.mul_mod, Nat.mul_assoc, ← Nat.pow_succ']
      congr 3
      omega
    · have ho' : ((x / 2 : Nat) : Int) * 2 = x := by omega
      simp only [ho', decide_true, startS, List.length_cons, List.length_nil, List.map_cons, List.map_nil, List.getElem?_cons_zero, List.getElem?_cons_succ, List.set_cons_zero, List.set_cons_succ, List.cons_append, List.nil_append, List.append_nil, List.replicate_succ, List.replicate_zero, Nat.reduceAdd, Nat.reduceSub, ↓reduceIte, Bool.false_eq_true, reduceCtorEq, true_and, and_true, true_or, or_true, false_or, or_false, Bool.not_true, Bool.not_false, Bool.true_and, Bool.false_and, Bool.and_true, decide_eq_true_eq, Bool.not_eq_eq_eq_not, exists_eq_left, exists_eq_left', Option.some.injEq]
      refine ⟨m2, n0, d2, hN (x / 2, f, b * b % n) _ (by show x / 2 < x; omega) ⟨rfl, by show x / 2 ≤ m; omega, hf, l2, ?_⟩⟩
      show f * (b * b % n) ^ (x / 2) % n = 2 ^ m % n
      rw [← he, Nat.mul_mod, hpow, ← Nat.mul_mod]
      congr 3
      omega

/-! ### the ring, walked -/
def pr (w x i : Nat) : List Int := [(st w x i : Int), ((w - st w x i : Nat) : Int)]
def prs (w x k : Nat) : List (List Int) := (List.range k).map (pr w x)
theorem prs_succ (w x k : Nat) : prs w x (k + 1) = prs w x k ++ [pr w x k] := by
  unfold prs
  rw [List.range_succ, List.map_append]
  rfl
theorem prs_len (w x k : Nat) : (prs w x k).length = k := by unfold prs; rw [List.length_map, List.length_range]
theorem pr_inj {w x i j : Nat} : pr w x i = pr w x j ↔ st w x i = st w x j := by
  unfold pr
  constructor
  · intro h
    have := (List.cons.inj h).1
    omega
  · intro h
    rw [h]
theorem mem_prs {w x k j : Nat} : pr w x j ∈ prs w x k ↔ ∃ i, i < k ∧ st w x i = st w x j := by
  unfold prs
  rw [List.mem_map]
  constructor
  · rintro ⟨i, hi, e⟩
    exact ⟨i, List.mem_range.mp hi, pr_inj.mp e⟩
  · rintro ⟨i, hi, e⟩
    exact ⟨i, List.mem_range.mpr hi, pr_inj.mpr e⟩
theorem end_apart {w x e : Nat} (o : OkT w x) (h : EndIs w x (some e)) {i j : Nat} (hij : i < j) (hj : j ≤ e) : st w x i ≠ st w x j := fun q => by
  obtain ⟨h1, h2⟩ := h
  have hp := o.pos
  have hx : ¬ w ∣ x := fun z => h2 0 (by omega) (by rw [Nat.pow_zero, Nat.mul_one]; exact z)
  have hlt : x < w := by
    have := o.le
    rcases Nat.lt_or_ge x w with z | z
    · exact z
    · have e1 : x = w := by omega
      exact absurd (by rw [e1]; exact Nat.dvd_refl w) hx
  have f : ∀ t, st w x t = x * 2 ^ t % w := fun t => by
    unfold st
    by_cases c : t = 0
    · subst c
      rw [if_pos rfl, Nat.pow_zero, Nat.mul_one, Nat.mod_eq_of_lt hlt]
    · rw [if_neg c]
  rw [f, f] at q
  refine h2 (i + (e - j)) (by omega) ?_
  have e1 : x * 2 ^ (i + (e - j)) % w = x * 2 ^ e % w := by
    have a1 : x * 2 ^ (i + (e - j)) = x * 2 ^ i * 2 ^ (e - j) := by rw [Nat.pow_add, Nat.mul_assoc]
    have a2 : x * 2 ^ e = x * 2 ^ j * 2 ^ (e - j) := by rw [Nat.mul_assoc, ← Nat.pow_add]; congr 2; omega
    rw [a1, a2, Nat.mul_mod, q, ← Nat.mul_mod]
  exact Nat.dvd_of_mod_eq_zero (e1.trans (Nat.mod_eq_zero_of_dvd h1))
theorem ring_none {w x f r : Nat} (o : OkT w x) (h : RingIs w x f r) : ∀ t, ¬ w ∣ x * 2 ^ t := by
  obtain ⟨l, h1, h2, h3, _⟩ := h.ex
  have q := end_is o h1 h2
  rw [if_neg h3] at q
  exact q
theorem ring_lt {w x f r : Nat} (o : OkT w x) (h : RingIs w x f r) : 0 < x ∧ x < w := by
  have q := ring_none o h 0
  rw [Nat.pow_zero, Nat.mul_one] at q
  have := o.le
  refine ⟨Nat.pos_of_ne_zero fun z => q (by rw [z]; exact Nat.dvd_zero w), ?_⟩
  rcases Nat.lt_or_ge x w with z | z
  · exact z
  · have e1 : x = w := by omega
    exact absurd (by rw [e1]; exact Nat.dvd_refl w) q
theorem st_mod {w x t : Nat} (h : x < w) : st w x t = x * 2 ^ t % w := by
  unfold st
  by_cases c : t = 0
  · subst c
    rw [if_pos rfl, Nat.pow_zero, Nat.mul_one, Nat.mod_eq_of_lt h]
  · rw [if_neg c]
/-- alike modulo w: from the tail on, a whole number of least rings apart -/
theorem ring_same {w x f r : Nat} (o : OkT w x) (h : RingIs w x f r) {l : Nat} (hl : w / Nat.gcd x (w - x) = l * 2 ^ f) (ho : l % 2 = 1) {i d : Nat} (hd : 1 ≤ d) : x * 2 ^ (i + d) % w = x * 2 ^ i % w ↔ f ≤ i ∧ l ∣ 2 ^ d - 1 := by
  have e : x + (w - x) = w := by have := o.le; omega
  have q := Nt.same_iff (a := x) (b := w - x) (i := i) (d := d) (by rw [e]; exact o.pos)
  rw [e, hl] at q
  rw [q]
  exact Nt.dvd_diff ho hd
theorem ring_apart {w x f r : Nat} (o : OkT w x) (h : RingIs w x f r) {i j : Nat} (hij : i < j) (hj : j < f + r) : st w x i ≠ st w x j := fun q => by
  obtain ⟨l, h1, h2, h3, h4⟩ := h.ex
  have hlt := (ring_lt o h).2
  rw [st_mod hlt, st_mod hlt] at q
  obtain ⟨d, rfl⟩ : ∃ d, j = i + d := ⟨j - i, by omega⟩
  have z := (ring_same o h h1 h2 (i := i) (d := d) (by omega)).mp q.symm
  exact h4.least d (by omega) (by omega) z.2
theorem ring_back {w x f r : Nat} (o : OkT w x) (h : RingIs w x f r) : st w x (f + r) = st w x f := by
  obtain ⟨l, h1, h2, h3, h4⟩ := h.ex
  have hlt := (ring_lt o h).2
  rw [st_mod hlt, st_mod hlt]
  exact (ring_same o h h1 h2 h4.pos).mpr ⟨Nat.le_refl f, h4.dv⟩
def sp_law_ring : Spc := fun ds A _ => ∃ w x, ds = [eT w x] ∧ OkT w x ∧ ((∃ e : Nat, EndIs w x (some e) ∧ e ≤ 100000 ∧ A (.tuple [.int (e : Int), .int 0])) ∨ ∃ f r : Nat, RingIs w x f r ∧ f + r ≤ 100000 ∧ A (.tuple [.int (f : Int), .int (r : Int)]))
def w_law_ring_1 : WS :=
    (wOwn 1 (wLst wNil))
def w_law_ring_2_1 : WS :=
    (wIfS (wB (wOp gEq (wFn (gMM min) (wCons (wV 0) wNil)) (wC (.int 0)))) (wRet (wTup (wCons (wFn gLen (wCons (wV 1) wNil)) (wCons (wC (.int 0)) wNil)))) wSkip)
def w_law_ring_2_2 : WS :=
    (wApp 1 (wV 0))
def w_law_ring_2_3 : WS :=
    (wSet 0 (wCall sp_law_next_pair (wCons (wV 0) wNil)))
def w_law_ring_2 : WS :=
    (wWh (wB (wOp gNotIn (wV 0) (wV 1))) (wSeq w_law_ring_2_1
    (wSeq w_law_ring_2_2
    w_law_ring_2_3)))
def w_law_ring_3 : WS :=
    (wRet (wTup (wCons (wIdx (wV 1) (wV 0)) (wCons (wOp gSub (wFn gLen (wCons (wV 1) wNil)) (wIdx (wV 1) (wV 0))) wNil))))
def w_law_ring : WS :=
    (wSeq w_law_ring_1
    (wSeq w_law_ring_2
    w_law_ring_3))
theorem shaped_prs (w x k : Nat) : SeqAt.shaped (.list ((prs w x k).map eH)) = true := shaped_list canLay_eH (fun s => by rw [depth_eH]; exact Nat.le_refl 1) (by decide) _
theorem ints_pr (w x k : Nat) : ints? [.int (st w x k : Int), .int ((w - st w x k : Nat) : Int)] = some [(st w x k : Int), ((w - st w x k : Nat) : Int)] := ints?_map [(st w x k : Int), ((w - st w x k : Nat) : Int)]
theorem pure_law_ring : Pure 2 1 sp_law_ring w_law_ring := by
  rintro ds A B - ⟨w, x, rfl, o, hA⟩
  have st0 : st w x 0 = x := rfl
  simp only [w_law_ring, w_law_ring_1, w_law_ring_2, bl?, g2, gAdd, gDiv, gEq, gGe, gGt, gI, gIn, gInt, gIs, gIsNot, gLe, gLen, gList, gLt, gMM, gMod, gMul, gMulS, gNe, gNotIn, gPow, gSorted, gSub, gIadd, gSum, gTuple, puts, sV, sVs, slotM, wAnd, wApp, wAsg, wAug, wAugI, wB, wC, wCall, wCallR, wChain, wCons, wDraw, wDrop, wEnL, wEnT, wExt, wFn, wFnO, wFor, wGCons, wGNil, wGT, wIL, wIT, wIdx, wIf, wIfS, wIsi, wIx, wLc, wLst, wMNil, wMO, wMV, wMix, wN, wNeg, wNil, wNot, wNotT, wO, wOp, wOr, wOwn, wPar, wR1, wR2, wRaise, wRaiseF, wRet, wSeq, wSet, wSetI, wSkip, wTAnd, wTNot, wTOr, wTru, wTry, wTryF, wTup, wV, wYes, startS, List.length_cons, List.length_nil, List.map_cons, List.map_nil, List.getElem?_cons_zero, List.getElem?_cons_succ, List.set_cons_zero, List.set_cons_succ, List.cons_append, List.nil_append, List.append_nil, List.replicate_succ, List.replicate_zero, Nat.reduceAdd, Nat.reduceSub, ↓reduceIte, Bool.false_eq_true, reduceCtorEq, true_and, and_true, true_or, or_true, false_or, or_false, Bool.not_true, Bool.not_false, Bool.true_and, Bool.false_and, Bool.and_true, decide_eq_true_eq, Bool.not_eq_eq_eq_not, exists_eq_left, exists_eq_left', Option.some.injEq]
  rcases hA with ⟨e, he, e1, hA⟩ | ⟨f, r, hr, e1, hA⟩
  · refine ⟨by decide, e + 1, wh_ok (fun (k : Nat) S => S = [.im (eH (pr w x k)), .ol ((prs w x k).map eH)] ∧ k ≤ e) (fun k => e - k) ?_ (e + 1) 0 _ (by omega) ⟨by unfold pr eT; rw [st0]; rfl, Nat.zero_le e⟩⟩
    rintro k S ⟨rfl, hk⟩ Nx hN
    have hni : ¬ pr w x k ∈ prs w x k := fun z => by
      obtain ⟨i, hi, q⟩ := mem_prs.mp z
      exact end_apart o he hi hk q
    have hle := st_le (t := k) o
    simp only [bl?, g2, gAdd, gDiv, gEq, gGe, gGt, gI, gIn, gInt, gIs, gIsNot, gLe, gLen, gList, gLt, gMM, gMod, gMul, gMulS, gNe, gNotIn, gPow, gSorted, gSub, gIadd, gSum, gTuple, puts, sV, sVs, slotM, wAnd, wApp, wAsg, wAug, wAugI, wB, wC, wCall, wCallR, wChain, wCons, wDraw, wDrop, wEnL, wEnT, wExt, wFn, wFnO, wFor, wGCons, wGNil, wGT, wIL, wIT, wIdx, wIf, wIfS, wIsi, wIx, wLc, wLst, wMNil, wMO, wMV, wMix, wN, wNeg, wNil, wNot, wNotT, wO, wOp, wOr, wOwn, wPar, wR1, wR2, wRaise, wRaiseF, wRet, wSeq, wSet, wSetI, wSkip, wTAnd, wTNot, wTOr, wTru, wTry, wTryF, wTup, wV, wYes, startS, List.length_cons, List.length_nil, List.map_cons, List.map_nil, List.getElem?_cons_zero, List.getElem?_cons_succ, List.set_cons_zero, List.set_cons_succ, List.cons_append, List.nil_append, List.append_nil, List.replicate_succ, List.replicate_zero, Nat.reduceAdd, Nat.reduceSub, ↓reduceIte, Bool.false_eq_true, reduceCtorEq, true_and, and_true, true_or, or_true, false_or, or_false, Bool.not_true, Bool.not_false, Bool.true_and, Bool.false_and, Bool.and_true, decide_eq_true_eq, Bool.not_eq_eq_eq_not, exists_eq_left, exists_eq_left', Option.some.injEq, shaped_eH, shaped_prs, any_map eqv_eH, hni, decide_false, w_law_ring_2_1, w_law_ring_2_2, w_law_ring_2_3]
    simp only [pr, eH, bl?, g2, gAdd, gDiv, gEq, gGe, gGt, gI, gIn, gInt, gIs, gIsNot, gLe, gLen, gList, gLt, gMM, gMod, gMul, gMulS, gNe, gNotIn, gPow, gSorted, gSub, gIadd, gSum, gTuple, puts, sV, sVs, slotM, wAnd, wApp, wAsg, wAug, wAugI, wB, wC, wCall, wCallR, wChain, wCons, wDraw, wDrop, wEnL, wEnT, wExt, wFn, wFnO, wFor, wGCons, wGNil, wGT, wIL, wIT, wIdx, wIf, wIfS, wIsi, wIx, wLc, wLst, wMNil, wMO, wMV, wMix, wN, wNeg, wNil, wNot, wNotT, wO, wOp, wOr, wOwn, wPar, wR1, wR2, wRaise, wRaiseF, wRet, wSeq, wSet, wSetI, wSkip, wTAnd, wTNot, wTOr, wTru, wTry, wTryF, wTup, wV, wYes, startS, List.length_cons, List.length_nil, List.map_cons, List.map_nil, List.getElem?_cons_zero, List.getElem?_cons_succ, List.set_cons_zero, List.set_cons_succ, List.cons_append, List.nil_append, List.append_nil, List.replicate_succ, List.replicate_zero, Nat.reduceAdd, Nat.reduceSub, ↓reduceIte, Bool.false_eq_true, reduceCtorEq, true_and, and_true, true_or, or_true, false_or, or_false, Bool.not_true, Bool.not_false, Bool.true_and, Bool.false_and, Bool.and_true, decide_eq_true_eq, Bool.not_eq_eq_eq_not, exists_eq_left, exists_eq_left', Option.some.injEq]
    refine ⟨_, _, ints_pr w x k, shaped_int _, shaped_int _, ?_⟩
    rw [eqv_int]
    by_cases c : k = e
    · subst c
      rw [if_pos (decide_eq_true ((min_T hle).mpr ((st_zero o).mpr he.1)))]
      rw [List.length_map, prs_len]
      exact ⟨by decide, hA⟩
    · have hz : ¬ (st w x k = 0 ∨ st w x k = w) := fun z => he.2 k (by omega) ((st_zero o).mp z)
      rw [if_neg (by rw [decide_eq_false (fun z => hz ((min_T hle).mp z))]; exact Bool.false_ne_true)]
      refine ⟨⟨_, rfl⟩, by rw [List.length_map, prs_len, sizeLine_eq]; omega, w, st w x k, rfl, by omega, by omega, ?_⟩
      rw [st_next]
      refine hN (k + 1) _ (by show e - (k + 1) < e - k; omega) ⟨?_, by omega⟩
      rw [prs_succ, List.map_append]
      rfl
  · have hlt := ring_lt o hr
    refine ⟨by decide, f + r + 1, wh_ok (fun (k : Nat) S => S = [.im (eH (pr w x k)), .ol ((prs w x k).map eH)] ∧ k ≤ f + r) (fun k => f + r - k) ?_ (f + r + 1) 0 _ (by omega) ⟨by unfold pr eT; rw [st0]; rfl, Nat.zero_le _⟩⟩
    rintro k S ⟨rfl, hk⟩ Nx hN
    by_cases c : k = f + r
    · subst c
      have hr1 : 1 ≤ r := by
        obtain ⟨l, _, _, _, h4⟩ := hr.ex
        exact h4.pos
      have hin : pr w x (f + r) ∈ prs w x (f + r) := mem_prs.mpr ⟨f, by omega, (ring_back o hr).symm⟩
      have hat : ((prs w x (f + r)).map eH)[f]? = some (eH (pr w x f)) := by
        unfold prs
        rw [List.getElem?_map, List.getElem?_map, List.getElem?_range (by omega)]
        rfl
      have hpf : pr w x f = pr w x (f + r) := pr_inj.mpr (ring_back o hr).symm
      have hno : ∀ (m : Nat) (z' : PyData), m < f → ((prs w x (f + r)).map eH)[m]? = some z' → PyData.eqv z' (eH (pr w x (f + r))) = false := fun m z' hm hz => by
        unfold prs at hz
        rw [List.getElem?_map, List.getElem?_map, List.getElem?_range (by omega)] at hz
        cases hz
        rw [eqv_eH]
        refine decide_eq_false fun q => ?_
        rw [← hpf] at q
        exact ring_apart o hr hm (by omega) (pr_inj.mp q)
      have heq : PyData.eqv (eH (pr w x f)) (eH (pr w x (f + r))) = true := by rw [eqv_eH, hpf]; exact decide_eq_true rfl
      simp only [bl?, g2, gAdd, gDiv, gEq, gGe, gGt, gI, gIn, gInt, gIs, gIsNot, gLe, gLen, gList, gLt, gMM, gMod, gMul, gMulS, gNe, gNotIn, gPow, gSorted, gSub, gIadd, gSum, gTuple, puts, sV, sVs, slotM, wAnd, wApp, wAsg, wAug, wAugI, wB, wC, wCall, wCallR, wChain, wCons, wDraw, wDrop, wEnL, wEnT, wExt, wFn, wFnO, wFor, wGCons, wGNil, wGT, wIL, wIT, wIdx, wIf, wIfS, wIsi, wIx, wLc, wLst, wMNil, wMO, wMV, wMix, wN, wNeg, wNil, wNot, wNotT, wO, wOp, wOr, wOwn, wPar, wR1, wR2, wRaise, wRaiseF, wRet, wSeq, wSet, wSetI, wSkip, wTAnd, wTNot, wTOr, wTru, wTry, wTryF, wTup, wV, wYes, startS, List.length_cons, List.length_nil, List.map_cons, List.map_nil, List.getElem?_cons_zero, List.getElem?_cons_succ, List.set_cons_zero, List.set_cons_succ, List.cons_append, List.nil_append, List.append_nil, List.replicate_succ, List.replicate_zero, Nat.reduceAdd, Nat.reduceSub, ↓reduceIte, Bool.false_eq_true, reduceCtorEq, true_and, and_true, true_or, or_true, false_or, or_false, Bool.not_true, Bool.not_false, Bool.true_and, Bool.false_and, Bool.and_true, decide_eq_true_eq, Bool.not_eq_eq_eq_not, exists_eq_left, exists_eq_left', Option.some.injEq, shaped_eH, shaped_prs, any_map eqv_eH, hin, decide_true, w_law_ring_3]
      refine ⟨f, _, hat, heq, hno, f, _, hat, heq, hno, ?_⟩
      rw [List.length_map, prs_len]
      have es : (((f + r : Nat) : Int) - (f : Int)) = (r : Int) := by omega
      rw [es]
      exact ⟨by decide, hA⟩
    · have hni : ¬ pr w x k ∈ prs w x k := fun z => by
        obtain ⟨i, hi, q⟩ := mem_prs.mp z
        exact ring_apart o hr hi (by omega) q
      have hle := st_le (t := k) o
      have hz : ¬ (st w x k = 0 ∨ st w x k = w) := fun z => ring_none o hr k ((st_zero o).mp z)
      simp only [bl?, g2, gAdd, gDiv, gEq, gGe, gGt, gI, gIn, gInt, gIs, gIsNot, gLe, gLen, gList, gLt, gMM, gMod, gMul, gMulS, gNe, gNotIn, gPow, gSorted, gSub, gIadd, gSum, gTuple, puts, sV, sVs, slotM, wAnd, wApp, wAsg, wAug, wAugI, wB, wC, wCall, wCallR, wChain, wCons, wDraw, wDrop, wEnL, wEnT, wExt, wFn, wFnO, wFor, wGCons, wGNil, wGT, wIL, wIT, wIdx, wIf, wIfS, wIsi, wIx, wLc, wLst, wMNil, wMO, wMV, wMix, wN, wNeg, wNil, wNot, wNotT, wO, wOp, wOr, wOwn, wPar, wR1, wR2, wRaise, wRaiseF, wRet, wSeq, wSet, wSetI, wSkip, wTAnd, wTNot, wTOr, wTru, wTry, wTryF, wTup, wV, wYes, startS, List.length_cons, List.length_nil, List.map_cons, List.map_nil, List.getElem?_cons_zero, List.getElem?_cons_succ, List.set_cons_zero, List.set_cons_succ, List.cons_append, List.nil_append, List.append_nil, List.replicate_succ, List.replicate_zero, Nat.reduceAdd, Nat.reduceSub, ↓reduceIte, Bool.false_eq_true, reduceCtorEq, true_and, and_true, true_or, or_true, false_or, or_false, Bool.not_true, Bool.not_false, Bool.true_and, Bool.false_and, Bool.and_true, decide_eq_true_eq, Bool.not_eq_eq_eq_not, exists_eq_left, exists_eq_left', Option.some.injEq, shaped_eH, shaped_prs, any_map eqv_eH, hni, decide_false, w_law_ring_2_1, w_law_ring_2_2, w_law_ring_2_3]
      simp only [pr, eH, bl?, g2, gAdd, gDiv, gEq, gGe, gGt, gI, gIn, gInt, gIs, gIsNot, gLe, gLen, gList, gLt, gMM, gMod, gMul, gMulS, gNe, gNotIn, gPow, gSorted, gSub, gIadd, gSum, gTuple, puts, sV, sVs, slotM, wAnd, wApp, wAsg, wAug, wAugI, wB, wC, wCall, wCallR, wChain, wCons, wDraw, wDrop, wEnL, wEnT, wExt, wFn, wFnO, wFor, wGCons, wGNil, wGT, wIL, wIT, wIdx, wIf, wIfS, wIsi, wIx, wLc, wLst, wMNil, wMO, wMV, wMix, wN, wNeg, wNil, wNot, wNotT, wO, wOp, wOr, wOwn, wPar, wR1, wR2, wRaise, wRaiseF, wRet, wSeq, wSet, wSetI, wSkip, wTAnd, wTNot, wTOr, wTru, wTry, wTryF, wTup, wV, wYes, startS, List.length_cons, List.length_nil, List.map_cons, List.map_nil, List.getElem?_cons_zero, List.getElem?_cons_succ, List.set_cons_zero, List.set_cons_succ, List.cons_append, List.nil_append, List.append_nil, List.replicate_succ, List.replicate_zero, Nat.reduceAdd, Nat.reduceSub, ↓reduceIte, Bool.false_eq_true, reduceCtorEq, true_and, and_true, true_or, or_true, false_or, or_false, Bool.not_true, Bool.not_false, Bool.true_and, Bool.false_and, Bool.and_true, decide_eq_true_eq, Bool.not_eq_eq_eq_not, exists_eq_left, exists_eq_left', Option.some.injEq]
      refine ⟨_, _, ints_pr w x k, shaped_int _, shaped_int _, ?_⟩
      rw [eqv_int]
      rw [if_neg (by rw [decide_eq_false (fun z => hz ((min_T hle).mp z))]; exact Bool.false_ne_true)]
      refine ⟨⟨_, rfl⟩, by rw [List.length_map, prs_len, sizeLine_eq]; omega, w, st w x k, rfl, by omega, by omega, ?_⟩
      rw [st_next]
      refine hN (k + 1) _ (by show f + r - (k + 1) < f + r - k; omega) ⟨?_, by omega⟩
      rw [prs_succ, List.map_append]
      rfl

def sp_law_told : Spc := fun ds A _ => ∃ w x, ds = [eT w x] ∧ OkT w x ∧ (1000000 < w → A .none) ∧ (w ≤ 1000000 → (∀ e, EndIs w x (some e) → A (.tuple [.int (e : Int), .int 0])) ∧ ∀ f r, RingIs w x f r → A (.tuple [.int (f : Int), .int (r : Int)]))

def w_law_told : WS :=
    (wTry m_TooGreat (wRet (wCall sp_tail_and_ring (wCons (wV 0) wNil))) (wRet (wC .none)))
theorem pure_law_told : Pure 1 1 sp_law_told w_law_told := by
  rintro ds A B - ⟨w, x, rfl, o, h1, h2⟩
  simp only [w_law_told, bl?, g2, gAdd, gDiv, gEq, gGe, gGt, gI, gIn, gInt, gIs, gIsNot, gLe, gLen, gList, gLt, gMM, gMod, gMul, gMulS, gNe, gNotIn, gPow, gSorted, gSub, gIadd, gSum, gTuple, puts, sV, sVs, slotM, wAnd, wApp, wAsg, wAug, wAugI, wB, wC, wCall, wCallR, wChain, wCons, wDraw, wDrop, wEnL, wEnT, wExt, wFn, wFnO, wFor, wGCons, wGNil, wGT, wIL, wIT, wIdx, wIf, wIfS, wIsi, wIx, wLc, wLst, wMNil, wMO, wMV, wMix, wN, wNeg, wNil, wNot, wNotT, wO, wOp, wOr, wOwn, wPar, wR1, wR2, wRaise, wRaiseF, wRet, wSeq, wSet, wSetI, wSkip, wTAnd, wTNot, wTOr, wTru, wTry, wTryF, wTup, wV, wYes, startS, List.length_cons, List.length_nil, List.map_cons, List.map_nil, List.getElem?_cons_zero, List.getElem?_cons_succ, List.set_cons_zero, List.set_cons_succ, List.cons_append, List.nil_append, List.append_nil, List.replicate_succ, List.replicate_zero, Nat.reduceAdd, Nat.reduceSub, ↓reduceIte, Bool.false_eq_true, reduceCtorEq, true_and, and_true, true_or, or_true, false_or, or_false, Bool.not_true, Bool.not_false, Bool.true_and, Bool.false_and, Bool.and_true, decide_eq_true_eq, Bool.not_eq_eq_eq_not, exists_eq_left, exists_eq_left', Option.some.injEq]
  refine ⟨w, x, rfl, o, fun c => ?_, h2⟩
  simp only [m_TooGreat, startS, List.length_cons, List.length_nil, List.map_cons, List.map_nil, List.getElem?_cons_zero, List.getElem?_cons_succ, List.set_cons_zero, List.set_cons_succ, List.cons_append, List.nil_append, List.append_nil, List.replicate_succ, List.replicate_zero, Nat.reduceAdd, Nat.reduceSub, ↓reduceIte, Bool.false_eq_true, reduceCtorEq, true_and, and_true, true_or, or_true, false_or, or_false, Bool.not_true, Bool.not_false, Bool.true_and, Bool.false_and, Bool.and_true, decide_eq_true_eq, Bool.not_eq_eq_eq_not, exists_eq_left, exists_eq_left', Option.some.injEq]
  exact h1 c
theorem heaps_T {a b : Int} (o : OkH [a, b]) : ∃ w x : Nat, OkT w x ∧ eH [a, b] = eT w x := by
  obtain ⟨x, rfl⟩ := Int.eq_ofNat_of_zero_le (o.rg a (by simp)).1
  obtain ⟨y, rfl⟩ := Int.eq_ofNat_of_zero_le (o.rg b (by simp)).1
  have hn : 1 ≤ x + y := by
    obtain ⟨z, hz, hne⟩ := o.nz
    simp at hz
    rcases hz with k | k <;> omega
  have e : x + y - x = y := by omega
  refine ⟨x + y, x, ⟨hn, by omega, by rw [e]; exact o⟩, ?_⟩
  unfold eT
  rw [e]
def sp_law_pair : Spc := fun ds A _ => ds = [] ∧ ∀ w x, OkT w x → A (eT w x)

def w_law_pair : WS :=
    (wSeq (wIfS (wB (wOp gEq (wDraw 0 (wC (.int 2))) (wC (.int 0)))) (wRet (wCallR 0 sp_law_heaps (wCons (wC (.int 2)) (wCons (wC (.int 2)) wNil)))) wSkip)
    (wSeq (wSet 1 (wOp gMul (wC (.int 8)) (wIx (wO (wLst (wCons (wC (.int 1)) (wCons (wC (.int 2)) (wCons (wC (.int 4)) (wCons (wC (.int 16)) (wCons (wC (.int 1024)) (wCons (wOp gPow (wC (.int 2)) (wC (.int 40))) (wCons (wOp gPow (wC (.int 2)) (wC (.int 60))) wNil))))))))) (wDraw 0 (wC (.int 7))))))
    (wSeq (wPar 2 3 (wCons (wDraw 0 (wOp gAdd (wV 1) (wC (.int 1)))) (wCons (wIx (wO (wLst (wCons (wC (.int 1)) (wCons (wC (.int 1)) (wCons (wC (.int 3)) (wCons (wC (.int 5)) (wCons (wOp gMul (wC (.int 7)) (wOp gPow (wC (.int 10)) (wC (.int 2)))) wNil))))))) (wDraw 0 (wC (.int 5)))) wNil)))
    (wRet (wTup (wCons (wOp gMul (wV 2) (wV 3)) (wCons (wOp gMul (wOp gSub (wV 1) (wV 2)) (wV 3)) wNil)))))))
theorem whole_of {r : Int} (h0 : 0 ≤ r) (h5 : r < 7) : ∃ z : Nat, atD [.int 1, .int 2, .int 4, .int 16, .int 1024, .int ((2 : Int) ^ (40 : Int).toNat), .int ((2 : Int) ^ (60 : Int).toNat)] r = some (.int (z : Int)) ∧ 1 ≤ z ∧ z ≤ 1152921504606846976 := by
  have e : r = 0 ∨ r = 1 ∨ r = 2 ∨ r = 3 ∨ r = 4 ∨ r = 5 ∨ r = 6 := by omega
  rcases e with e | e | e | e | e | e | e <;> subst e
  · exact ⟨1, rfl, by decide, by decide⟩
  · exact ⟨2, rfl, by decide, by decide⟩
  · exact ⟨4, rfl, by decide, by decide⟩
  · exact ⟨16, rfl, by decide, by decide⟩
  · exact ⟨1024, rfl, by decide, by decide⟩
  · exact ⟨1099511627776, rfl, by decide, by decide⟩
  · exact ⟨1152921504606846976, rfl, by decide, by decide⟩
theorem times_of {r : Int} (h0 : 0 ≤ r) (h5 : r < 5) : ∃ z : Nat, atD [.int 1, .int 1, .int 3, .int 5, .int (7 * (10 : Int) ^ (2 : Int).toNat)] r = some (.int (z : Int)) ∧ 1 ≤ z ∧ z ≤ 700 := by
  have e : r = 0 ∨ r = 1 ∨ r = 2 ∨ r = 3 ∨ r = 4 := by omega
  rcases e with e | e | e | e | e <;> subst e
  · exact ⟨1, rfl, by decide, by decide⟩
  · exact ⟨1, rfl, by decide, by decide⟩
  · exact ⟨3, rfl, by decide, by decide⟩
  · exact ⟨5, rfl, by decide, by decide⟩
  · exact ⟨700, rfl, by decide, by decide⟩
theorem pure_law_pair : PureR 3 0 sp_law_pair w_law_pair := by
  rintro ds A B a c - ⟨rfl, hA⟩
  have e31 : (10 : Int) ^ 31 = 10000000000000000000000000000000 := by decide
  have p1 : CPow 2 40 := ⟨by decide, by decide, by decide⟩
  have p2 : CPow 2 60 := ⟨by decide, by decide, by decide⟩
  have p3 : CPow 10 2 := ⟨by decide, by decide, by decide⟩
  have m7 : CMulW 7 ((10 : Int) ^ (2 : Int).toNat) := by unfold CMulW; decide
  simp only [w_law_pair, bl?, g2, gAdd, gDiv, gEq, gGe, gGt, gI, gIn, gInt, gIs, gIsNot, gLe, gLen, gList, gLt, gMM, gMod, gMul, gMulS, gNe, gNotIn, gPow, gSorted, gSub, gIadd, gSum, gTuple, puts, sV, sVs, slotM, wAnd, wApp, wAsg, wAug, wAugI, wB, wC, wCall, wCallR, wChain, wCons, wDraw, wDrop, wEnL, wEnT, wExt, wFn, wFnO, wFor, wGCons, wGNil, wGT, wIL, wIT, wIdx, wIf, wIfS, wIsi, wIx, wLc, wLst, wMNil, wMO, wMV, wMix, wN, wNeg, wNil, wNot, wNotT, wO, wOp, wOr, wOwn, wPar, wR1, wR2, wRaise, wRaiseF, wRet, wSeq, wSet, wSetI, wSkip, wTAnd, wTNot, wTOr, wTru, wTry, wTryF, wTup, wV, wYes, startS, List.length_cons, List.length_nil, List.map_cons, List.map_nil, List.getElem?_cons_zero, List.getElem?_cons_succ, List.set_cons_zero, List.set_cons_succ, List.cons_append, List.nil_append, List.append_nil, List.replicate_succ, List.replicate_zero, Nat.reduceAdd, Nat.reduceSub, ↓reduceIte, Bool.false_eq_true, reduceCtorEq, true_and, and_true, true_or, or_true, false_or, or_false, Bool.not_true, Bool.not_false, Bool.true_and, Bool.false_and, Bool.and_true, decide_eq_true_eq, Bool.not_eq_eq_eq_not, exists_eq_left, exists_eq_left', Option.some.injEq]
  refine ⟨a, c, rfl, rfl, by decide, by rw [e31]; decide, fun r r0 r1 => ⟨shaped_int _, shaped_int _, ?_⟩⟩
  rw [eqv_int]
  by_cases c0 : r = 0
  · rw [if_pos (decide_eq_true c0)]
    refine ⟨a, c, rfl, rfl, 2, 2, rfl, by decide, by decide, by decide, fun h oh l2 l6 => ?_⟩
    match h, oh, l2, l6 with
    | [u, v], oh, _, _ =>
      obtain ⟨w, x, o, e⟩ := heaps_T oh
      rw [e]
      exact hA w x o
  · rw [if_neg (by simpa using c0)]
    refine ⟨p1, p2, by decide, a, c, rfl, rfl, by decide, by rw [e31]; decide, fun r r0 r1 => ?_⟩
    obtain ⟨z, ez, z1, z2⟩ := whole_of r0 r1
    refine ⟨_, ez, mul_nat (x := 8) (by decide) (by omega), a, c, rfl, rfl, by omega, by rw [e31]; omega, fun one o0 o1 => ?_⟩
    refine ⟨p3, m7, by decide, a, c, rfl, rfl, by decide, by rw [e31]; decide, fun r r0 r1 => ?_⟩
    obtain ⟨t, et, t1, t2⟩ := times_of r0 r1
    obtain ⟨u, rfl⟩ := Int.eq_ofNat_of_zero_le o0
    have hu : u ≤ 8 * z := by omega
    have ev : (8 : Int) * (z : Int) - (u : Int) = ((8 * z - u : Nat) : Int) := by omega
    have b1 : u * t ≤ 1000000000000000000000000000000 := Nat.le_trans (Nat.mul_le_mul (show u ≤ 9223372036854775808 by omega) t2) (by decide)
    have b2 : (8 * z - u) * t ≤ 1000000000000000000000000000000 := Nat.le_trans (Nat.mul_le_mul (show 8 * z - u ≤ 9223372036854775808 by omega) t2) (by decide)
    have hw : 1 ≤ u * t ∨ 1 ≤ (8 * z - u) * t := by
      rcases Nat.lt_or_ge 0 u with k | k
      · exact .inl (Nat.mul_le_mul (show 1 ≤ u from k) t1)
      · exact .inr (Nat.mul_le_mul (show 1 ≤ 8 * z - u by omega) t1)
    have hbig : big = 1000000000000000000000000000000 := rfl
    have ok : OkH [((u * t : Nat) : Int), (((8 * z - u) * t : Nat) : Int)] := ⟨(show 2 ≤ 2 by decide), (show 2 ≤ 6 by decide), fun y hy => by
      simp only [List.mem_cons, List.not_mem_nil, or_false] at hy
      rcases hy with k | k <;> (rw [k, hbig]; omega), by
      rcases hw with k | k
      · exact ⟨_, List.mem_cons_self, by omega⟩
      · exact ⟨_, List.mem_cons_of_mem _ List.mem_cons_self, by omega⟩⟩
    refine ⟨_, et, ?_⟩
    simp only [startS, List.length_cons, List.length_nil, List.map_cons, List.map_nil, List.getElem?_cons_zero, List.getElem?_cons_succ, List.set_cons_zero, List.set_cons_succ, List.cons_append, List.nil_append, List.append_nil, List.replicate_succ, List.replicate_zero, Nat.reduceAdd, Nat.reduceSub, ↓reduceIte, Bool.false_eq_true, reduceCtorEq, true_and, and_true, true_or, or_true, false_or, or_false, Bool.not_true, Bool.not_false, Bool.true_and, Bool.false_and, Bool.and_true, decide_eq_true_eq, Bool.not_eq_eq_eq_not, exists_eq_left, exists_eq_left', Option.some.injEq, ev, flat_int]
    refine ⟨mul_nat (by omega) (by omega), mul_nat (by omega) (by omega), by decide, ?_⟩
    obtain ⟨w, x, o, e⟩ := heaps_T ok
    have q := hA w x o
    rw [← e] at q
    simp only [Int.natCast_mul] at q
    exact q

/-! ### least -/
def sp_law_is_least : Spc := fun ds A _ => ∃ w x f r : Nat, ds = [eT w x, .int f, .int r] ∧ OkT w x ∧ RingIs w x f r ∧ f ≤ 1000000 ∧ r ≤ 1000000 ∧ A (.bool true)
def w_law_is_least_1 : WS :=
    (wSet 3 (wFn gSum (wCons (wV 0) wNil)))
def w_law_is_least_2 : WS :=
    (wOwn 4 (wLst wNil))
def w_law_is_least_3 : WS :=
    (wFor (wIL (wO (wLst (wCons (wFn (g2 fun i j => if j > i then j else i) (wCons (wC (.int 0)) (wCons (wOp gSub (wV 1) (wC (.int 1))) wNil))) (wCons (wV 1) wNil))))) (wN 5) (wApp 4 (wOp gMod (wFn gInt (wCons (wOp gMul (wIx (wV 0) (wC (.int 0))) (wCall sp_law_power (wCons (wV 5) (wCons (wV 3) wNil)))) wNil)) (wV 3))))
def w_law_is_least_4 : WS :=
    (wIfS (wB (wOp gNe (wOp gMod (wFn gInt (wCons (wOp gMul (wIx (wV 4) (wC (.int 1))) (wCall sp_law_power (wCons (wV 2) (wCons (wV 3) wNil)))) wNil)) (wV 3)) (wIx (wV 4) (wC (.int 1))))) (wRet (wC (.bool false))) wSkip)
def w_law_is_least_5_1 : WS :=
    (wSet 8 (wOp gMod (wFn gInt (wCons (wOp gMul (wIx (wV 4) (wC (.int 1))) (wCall sp_law_power (wCons (wV 5) (wCons (wV 3) wNil)))) wNil)) (wV 3)))
def w_law_is_least_5_2 : WS :=
    (wIfS (wTAnd (wB (wOp gLt (wV 5) (wV 2))) (wB (wOp gEq (wV 8) (wIx (wV 4) (wC (.int 1)))))) (wRet (wC (.bool false))) wSkip)
def w_law_is_least_5 : WS :=
    (wFor (wIL (wO (wLc (wR2 (wCons (wC (.int 1)) (wCons (wC (.int 1001)) wNil))) (wN 7) (wB (wOp gEq (wOp gMod (wV 2) (wV 7)) (wC (.int 0)))) (wV 7) [7]))) (wN 6) (wFor (wIL (wO (wLst (wCons (wV 6) (wCons (wOp gDiv (wV 2) (wV 6)) wNil))))) (wN 5) (wSeq w_law_is_least_5_1
    w_law_is_least_5_2)))
def w_law_is_least_6 : WS :=
    (wRet (wOr (wOp gEq (wV 1) (wC (.int 0))) (wOp gNe (wOp gMod (wFn gInt (wCons (wOp gMul (wIx (wV 4) (wC (.int 0))) (wCall sp_law_power (wCons (wV 2) (wCons (wV 3) wNil)))) wNil)) (wV 3)) (wIx (wV 4) (wC (.int 0))))))
def w_law_is_least : WS :=
    (wSeq w_law_is_least_1
    (wSeq w_law_is_least_2
    (wSeq w_law_is_least_3
    (wSeq w_law_is_least_4
    (wSeq w_law_is_least_5
    w_law_is_least_6)))))
theorem seq_cut {w1 w2 : WS} {S : Slots} {P : En} (Rel : Slots → Prop) (h1 : ∀ Nx : Slots → Prop, (∀ S, Rel S → Nx S) → w1 S { P with nx := Nx }) (h2 : ∀ S, Rel S → w2 S P) : wSeq w1 w2 S P := h1 _ h2
theorem lpow_use {m n : Nat} {A : PyData → Prop} {B : XC → Prop} (hm : m ≤ 1000000000000000000000000000000) (h1 : 1 ≤ n) (h2 : n ≤ 2000000000000000000000000000000) (h : ∀ v : Nat, v % n = 2 ^ m % n → v ≤ n → A (.int (v : Int))) : sp_law_power [.int (m : Int), .int (n : Int)] A B := ⟨m, n, rfl, hm, h1, h2, h⟩
theorem mul_pow_mod {x v m n : Nat} (h : v % n = 2 ^ m % n) : ((x : Int) * (v : Int)).fmod (n : Int) = ((x * 2 ^ m % n : Nat) : Int) := by
  rw [← Int.natCast_mul, fmod_nat, Nat.mul_mod, h, ← Nat.mul_mod]
theorem at_more {x v i m n : Nat} (h : v % n = 2 ^ m % n) : (((x * 2 ^ i % n : Nat) : Int) * (v : Int)).fmod (n : Int) = ((x * 2 ^ (i + m) % n : Nat) : Int) := by
  rw [mul_pow_mod h, Nat.mod_mul_mod, Nat.mul_assoc, ← Nat.pow_add]
theorem pure_law_is_least : Pure 9 3 sp_law_is_least w_law_is_least := by
  rintro ds A B - ⟨w, x, f, r, rfl, o, hr, hf, hrb, hA⟩
  have hle := o.le
  have hpos := o.pos
  have hb := o.big
  have n0 : (w : Int) ≠ 0 := by omega
  have hm : (if (f : Int) - 1 > 0 then (f : Int) - 1 else 0) = ((f - 1 : Nat) : Int) := by split <;> omega
  simp only [w_law_is_least, w_law_is_least_1, w_law_is_least_2, bl?, g2, gAdd, gDiv, gEq, gGe, gGt, gI, gIn, gInt, gIs, gIsNot, gLe, gLen, gList, gLt, gMM, gMod, gMul, gMulS, gNe, gNotIn, gPow, gSorted, gSub, gIadd, gSum, gTuple, puts, sV, sVs, slotM, wAnd, wApp, wAsg, wAug, wAugI, wB, wC, wCall, wCallR, wChain, wCons, wDraw, wDrop, wEnL, wEnT, wExt, wFn, wFnO, wFor, wGCons, wGNil, wGT, wIL, wIT, wIdx, wIf, wIfS, wIsi, wIx, wLc, wLst, wMNil, wMO, wMV, wMix, wN, wNeg, wNil, wNot, wNotT, wO, wOp, wOr, wOwn, wPar, wR1, wR2, wRaise, wRaiseF, wRet, wSeq, wSet, wSetI, wSkip, wTAnd, wTNot, wTOr, wTru, wTry, wTryF, wTup, wV, wYes, startS, List.length_cons, List.length_nil, List.map_cons, List.map_nil, List.getElem?_cons_zero, List.getElem?_cons_succ, List.set_cons_zero, List.set_cons_succ, List.cons_append, List.nil_append, List.append_nil, List.replicate_succ, List.replicate_zero, Nat.reduceAdd, Nat.reduceSub, ↓reduceIte, Bool.false_eq_true, reduceCtorEq, true_and, and_true, true_or, or_true, false_or, or_false, Bool.not_true, Bool.not_false, Bool.true_and, Bool.false_and, Bool.and_true, decide_eq_true_eq, Bool.not_eq_eq_eq_not, exists_eq_left, exists_eq_left', Option.some.injEq]
  refine ⟨_, ints?_map [(x : Int), ((w - x : Nat) : Int)], ?_⟩
  rw [sum_T hle]
  refine ⟨by decide, ?_⟩
  refine seq_cut (fun S => ∃ s5 s6 s7 s8, S = [.im (eT w x), .im (.int (f : Int)), .im (.int (r : Int)), .im (.int (w : Int)), .ol [.int ((x * 2 ^ (f - 1) % w : Nat) : Int), .int ((x * 2 ^ f % w : Nat) : Int)], s5, s6, s7, s8] ∧ notRng (some s7) = true) (fun Nx hN => ?_) ?_
  · simp only [w_law_is_least_3, forL, bl?, g2, gAdd, gDiv, gEq, gGe, gGt, gI, gIn, gInt, gIs, gIsNot, gLe, gLen, gList, gLt, gMM, gMod, gMul, gMulS, gNe, gNotIn, gPow, gSorted, gSub, gIadd, gSum, gTuple, puts, sV, sVs, slotM, wAnd, wApp, wAsg, wAug, wAugI, wB, wC, wCall, wCallR, wChain, wCons, wDraw, wDrop, wEnL, wEnT, wExt, wFn, wFnO, wFor, wGCons, wGNil, wGT, wIL, wIT, wIdx, wIf, wIfS, wIsi, wIx, wLc, wLst, wMNil, wMO, wMV, wMix, wN, wNeg, wNil, wNot, wNotT, wO, wOp, wOr, wOwn, wPar, wR1, wR2, wRaise, wRaiseF, wRet, wSeq, wSet, wSetI, wSkip, wTAnd, wTNot, wTOr, wTru, wTry, wTryF, wTup, wV, wYes, startS, List.length_cons, List.length_nil, List.map_cons, List.map_nil, List.getElem?_cons_zero, List.getElem?_cons_succ, List.set_cons_zero, List.set_cons_succ, List.cons_append, List.nil_append, List.append_nil, List.replicate_succ, List.replicate_zero, Nat.reduceAdd, Nat.reduceSub, ↓reduceIte, Bool.false_eq_true, reduceCtorEq, true_and, and_true, true_or, or_true, false_or, or_false, Bool.not_true, Bool.not_false, Bool.true_and, Bool.false_and, Bool.and_true, decide_eq_true_eq, Bool.not_eq_eq_eq_not, exists_eq_left, exists_eq_left', Option.some.injEq, eT, eH, at_p0, hm, flat_int]
    refine ⟨by decide, ⟨_, rfl⟩, lpow_use (by omega) hpos hb fun v hv hvl => ?_⟩
    refine ⟨mul_nat (by omega) (by omega), n0, by decide, ⟨_, rfl⟩, lpow_use (by omega) hpos hb fun u hu hul => ?_⟩
    refine ⟨mul_nat (by omega) (by omega), n0, by decide, ?_⟩
    rw [mul_pow_mod hv, mul_pow_mod hu]
    exact hN _ ⟨_, _, _, _, rfl, rfl⟩
  rintro S ⟨s5, s6, s7, s8, rfl, n7⟩
  obtain ⟨l, hl1, hl2, hl3, hl4⟩ := hr.ex
  have hr1 := hl4.pos
  have lt0 : x * 2 ^ (f - 1) % w < w := Nat.mod_lt _ (by omega)
  have lt1 : x * 2 ^ f % w < w := Nat.mod_lt _ (by omega)
  have same : x * 2 ^ (f + r) % w = x * 2 ^ f % w := (ring_same o hr hl1 hl2 hr1).mpr ⟨Nat.le_refl f, hl4.dv⟩
  simp only [w_law_is_least_4, bl?, g2, gAdd, gDiv, gEq, gGe, gGt, gI, gIn, gInt, gIs, gIsNot, gLe, gLen, gList, gLt, gMM, gMod, gMul, gMulS, gNe, gNotIn, gPow, gSorted, gSub, gIadd, gSum, gTuple, puts, sV, sVs, slotM, wAnd, wApp, wAsg, wAug, wAugI, wB, wC, wCall, wCallR, wChain, wCons, wDraw, wDrop, wEnL, wEnT, wExt, wFn, wFnO, wFor, wGCons, wGNil, wGT, wIL, wIT, wIdx, wIf, wIfS, wIsi, wIx, wLc, wLst, wMNil, wMO, wMV, wMix, wN, wNeg, wNil, wNot, wNotT, wO, wOp, wOr, wOwn, wPar, wR1, wR2, wRaise, wRaiseF, wRet, wSeq, wSet, wSetI, wSkip, wTAnd, wTNot, wTOr, wTru, wTry, wTryF, wTup, wV, wYes, startS, List.length_cons, List.length_nil, List.map_cons, List.map_nil, List.getElem?_cons_zero, List.getElem?_cons_succ, List.set_cons_zero, List.set_cons_succ, List.cons_append, List.nil_append, List.append_nil, List.replicate_succ, List.replicate_zero, Nat.reduceAdd, Nat.reduceSub, ↓reduceIte, Bool.false_eq_true, reduceCtorEq, true_and, and_true, true_or, or_true, false_or, or_false, Bool.not_true, Bool.not_false, Bool.true_and, Bool.false_and, Bool.and_true, decide_eq_true_eq, Bool.not_eq_eq_eq_not, exists_eq_left, exists_eq_left', Option.some.injEq, at_0, at_1, flat_int]
  refine lpow_use (by omega) hpos hb fun v hv hvl => ?_
  refine ⟨mul_nat (by omega) (by omega), n0, shaped_int _, shaped_int _, ?_⟩
  rw [at_more hv, same, eqv_int, decide_eq_true rfl]
  simp only [startS, List.length_cons, List.length_nil, List.map_cons, List.map_nil, List.getElem?_cons_zero, List.getElem?_cons_succ, List.set_cons_zero, List.set_cons_succ, List.cons_append, List.nil_append, List.append_nil, List.replicate_succ, List.replicate_zero, Nat.reduceAdd, Nat.reduceSub, ↓reduceIte, Bool.false_eq_true, reduceCtorEq, true_and, and_true, true_or, or_true, false_or, or_false, Bool.not_true, Bool.not_false, Bool.true_and, Bool.false_and, Bool.and_true, decide_eq_true_eq, Bool.not_eq_eq_eq_not, exists_eq_left, exists_eq_left', Option.some.injEq, w_law_is_least_5, bl?, g2, gAdd, gDiv, gEq, gGe, gGt, gI, gIn, gInt, gIs, gIsNot, gLe, gLen, gList, gLt, gMM, gMod, gMul, gMulS, gNe, gNotIn, gPow, gSorted, gSub, gIadd, gSum, gTuple, puts, sV, sVs, slotM, wAnd, wApp, wAsg, wAug, wAugI, wB, wC, wCall, wCallR, wChain, wCons, wDraw, wDrop, wEnL, wEnT, wExt, wFn, wFnO, wFor, wGCons, wGNil, wGT, wIL, wIT, wIdx, wIf, wIfS, wIsi, wIx, wLc, wLst, wMNil, wMO, wMV, wMix, wN, wNeg, wNil, wNot, wNotT, wO, wOp, wOr, wOwn, wPar, wR1, wR2, wRaise, wRaiseF, wRet, wSeq, wSet, wSetI, wSkip, wTAnd, wTNot, wTOr, wTru, wTry, wTryF, wTup, wV, wYes]
  have turn : ∀ (m : Nat) (s6 s7 s8 : Slot) (P : En), 1 ≤ m → m ≤ 1000000 → P.nx [.im (eT w x), .im (.int (f : Int)), .im (.int (r : Int)), .im (.int (w : Int)), .ol [.int ((x * 2 ^ (f - 1) % w : Nat) : Int), .int ((x * 2 ^ f % w : Nat) : Int)], .im (.int (m : Int)), s6, s7, .im (.int ((x * 2 ^ (f + m) % w : Nat) : Int))] →
      wSeq w_law_is_least_5_1 w_law_is_least_5_2 [.im (eT w x), .im (.int (f : Int)), .im (.int (r : Int)), .im (.int (w : Int)), .ol [.int ((x * 2 ^ (f - 1) % w : Nat) : Int), .int ((x * 2 ^ f % w : Nat) : Int)], .im (.int (m : Int)), s6, s7, s8] P := fun m s6 s7 s8 P m1 m2 hP => by
    simp only [w_law_is_least_5_1, w_law_is_least_5_2, bl?, g2, gAdd, gDiv, gEq, gGe, gGt, gI, gIn, gInt, gIs, gIsNot, gLe, gLen, gList, gLt, gMM, gMod, gMul, gMulS, gNe, gNotIn, gPow, gSorted, gSub, gIadd, gSum, gTuple, puts, sV, sVs, slotM, wAnd, wApp, wAsg, wAug, wAugI, wB, wC, wCall, wCallR, wChain, wCons, wDraw, wDrop, wEnL, wEnT, wExt, wFn, wFnO, wFor, wGCons, wGNil, wGT, wIL, wIT, wIdx, wIf, wIfS, wIsi, wIx, wLc, wLst, wMNil, wMO, wMV, wMix, wN, wNeg, wNil, wNot, wNotT, wO, wOp, wOr, wOwn, wPar, wR1, wR2, wRaise, wRaiseF, wRet, wSeq, wSet, wSetI, wSkip, wTAnd, wTNot, wTOr, wTru, wTry, wTryF, wTup, wV, wYes, startS, List.length_cons, List.length_nil, List.map_cons, List.map_nil, List.getElem?_cons_zero, List.getElem?_cons_succ, List.set_cons_zero, List.set_cons_succ, List.cons_append, List.nil_append, List.append_nil, List.replicate_succ, List.replicate_zero, Nat.reduceAdd, Nat.reduceSub, ↓reduceIte, Bool.false_eq_true, reduceCtorEq, true_and, and_true, true_or, or_true, false_or, or_false, Bool.not_true, Bool.not_false, Bool.true_and, Bool.false_and, Bool.and_true, decide_eq_true_eq, Bool.not_eq_eq_eq_not, exists_eq_left, exists_eq_left', Option.some.injEq, at_1, flat_int]
    refine lpow_use (by omega) hpos hb fun v hv hvl => ?_
    refine ⟨mul_nat (by omega) (by omega), n0, ?_⟩
    rw [at_more hv]
    by_cases c : m < r
    · have c' : (m : Int) < r := by omega
      have ne : ¬ (((x * 2 ^ (f + m) % w : Nat) : Int) = ((x * 2 ^ f % w : Nat) : Int)) := fun z => by
        have z' : x * 2 ^ (f + m) % w = x * 2 ^ f % w := by omega
        exact hl4.least m m1 c ((ring_same o hr hl1 hl2 m1).mp z').2
      simp only [c', decide_true, startS, List.length_cons, List.length_nil, List.map_cons, List.map_nil, List.getElem?_cons_zero, List.getElem?_cons_succ, List.set_cons_zero, List.set_cons_succ, List.cons_append, List.nil_append, List.append_nil, List.replicate_succ, List.replicate_zero, Nat.reduceAdd, Nat.reduceSub, ↓reduceIte, Bool.false_eq_true, reduceCtorEq, true_and, and_true, true_or, or_true, false_or, or_false, Bool.not_true, Bool.not_false, Bool.true_and, Bool.false_and, Bool.and_true, decide_eq_true_eq, Bool.not_eq_eq_eq_not, exists_eq_left, exists_eq_left', Option.some.injEq, at_1, shaped_int, eqv_int, ne, decide_false]
      exact hP
    · have c' : ¬ (m : Int) < r := by omega
      simp only [c', decide_false, startS, List.length_cons, List.length_nil, List.map_cons, List.map_nil, List.getElem?_cons_zero, List.getElem?_cons_succ, List.set_cons_zero, List.set_cons_succ, List.cons_append, List.nil_append, List.append_nil, List.replicate_succ, List.replicate_zero, Nat.reduceAdd, Nat.reduceSub, ↓reduceIte, Bool.false_eq_true, reduceCtorEq, true_and, and_true, true_or, or_true, false_or, or_false, Bool.not_true, Bool.not_false, Bool.true_and, Bool.false_and, Bool.and_true, decide_eq_true_eq, Bool.not_eq_eq_eq_not, exists_eq_left, exists_eq_left', Option.some.injEq]
      exact hP
  refine ⟨⟨by decide, by decide, by decide, by decide⟩, by simp [n7], ?_⟩
  have hrg : rangeD 1 ((1001 : Int) - 1).toNat = (List.range 1000).map fun (i : Nat) => PyData.int ((1 + i : Nat) : Int) := by
    unfold rangeD
    refine List.map_congr_left fun i _ => ?_
    rw [Int.natCast_add]
    rfl
  rw [hrg]
  refine lc_ok (fun (i : Nat) => PyData.int ((1 + i : Nat) : Int)) (fun i => decide (r % (1 + i) = 0)) (fun i => .int ((1 + i : Nat) : Int)) (List.range 1000) [] True (fun i hi Yes No hy hno => ?_) (by rw [List.length_range]; decide) trivial fun c' hc' => ⟨hc', ?_⟩
  · have e3 : ((r : Int).fmod ((1 + i : Nat) : Int)) = ((r % (1 + i) : Nat) : Int) := fmod_nat r (1 + i)
    have ni : ((1 + i : Nat) : Int) ≠ 0 := by omega
    simp only [bl?, g2, gAdd, gDiv, gEq, gGe, gGt, gI, gIn, gInt, gIs, gIsNot, gLe, gLen, gList, gLt, gMM, gMod, gMul, gMulS, gNe, gNotIn, gPow, gSorted, gSub, gIadd, gSum, gTuple, puts, sV, sVs, slotM, wAnd, wApp, wAsg, wAug, wAugI, wB, wC, wCall, wCallR, wChain, wCons, wDraw, wDrop, wEnL, wEnT, wExt, wFn, wFnO, wFor, wGCons, wGNil, wGT, wIL, wIT, wIdx, wIf, wIfS, wIsi, wIx, wLc, wLst, wMNil, wMO, wMV, wMix, wN, wNeg, wNil, wNot, wNotT, wO, wOp, wOr, wOwn, wPar, wR1, wR2, wRaise, wRaiseF, wRet, wSeq, wSet, wSetI, wSkip, wTAnd, wTNot, wTOr, wTru, wTry, wTryF, wTup, wV, wYes, startS, List.length_cons, List.length_nil, List.map_cons, List.map_nil, List.getElem?_cons_zero, List.getElem?_cons_succ, List.set_cons_zero, List.set_cons_succ, List.cons_append, List.nil_append, List.append_nil, List.replicate_succ, List.replicate_zero, Nat.reduceAdd, Nat.reduceSub, ↓reduceIte, Bool.false_eq_true, reduceCtorEq, true_and, and_true, true_or, or_true, false_or, or_false, Bool.not_true, Bool.not_false, Bool.true_and, Bool.false_and, Bool.and_true, decide_eq_true_eq, Bool.not_eq_eq_eq_not, exists_eq_left, exists_eq_left', Option.some.injEq, wipeS, flat_int, e3, shaped_int, eqv_int]
    refine ⟨ni, ?_⟩
    by_cases c : r % (1 + i) = 0
    · have c2 : (((r % (1 + i) : Nat) : Int) = 0) := by omega
      simp only [c2, decide_true, startS, List.length_cons, List.length_nil, List.map_cons, List.map_nil, List.getElem?_cons_zero, List.getElem?_cons_succ, List.set_cons_zero, List.set_cons_succ, List.cons_append, List.nil_append, List.append_nil, List.replicate_succ, List.replicate_zero, Nat.reduceAdd, Nat.reduceSub, ↓reduceIte, Bool.false_eq_true, reduceCtorEq, true_and, and_true, true_or, or_true, false_or, or_false, Bool.not_true, Bool.not_false, Bool.true_and, Bool.false_and, Bool.and_true, decide_eq_true_eq, Bool.not_eq_eq_eq_not, exists_eq_left, exists_eq_left', Option.some.injEq]
      exact hy (decide_eq_true c)
    · have c2 : ¬ (((r % (1 + i) : Nat) : Int) = 0) := by omega
      simp only [c2, decide_false, startS, List.length_cons, List.length_nil, List.map_cons, List.map_nil, List.getElem?_cons_zero, List.getElem?_cons_succ, List.set_cons_zero, List.set_cons_succ, List.cons_append, List.nil_append, List.append_nil, List.replicate_succ, List.replicate_zero, Nat.reduceAdd, Nat.reduceSub, ↓reduceIte, Bool.false_eq_true, reduceCtorEq, true_and, and_true, true_or, or_true, false_or, or_false, Bool.not_true, Bool.not_false, Bool.true_and, Bool.false_and, Bool.and_true, decide_eq_true_eq, Bool.not_eq_eq_eq_not, exists_eq_left, exists_eq_left', Option.some.injEq]
      exact hno (decide_eq_false c)
  · refine for_inv (fun rest S => (∃ s5 s6 s7 s8, S = [.im (eT w x), .im (.int (f : Int)), .im (.int (r : Int)), .im (.int (w : Int)), .ol [.int ((x * 2 ^ (f - 1) % w : Nat) : Int), .int ((x * 2 ^ f % w : Nat) : Int)], s5, s6, s7, s8]) ∧ ∀ d ∈ rest, ∃ q : Nat, d = .int (q : Int) ∧ 1 ≤ q ∧ q ≤ 1000 ∧ r % q = 0) _ _ ?_ ⟨⟨_, _, _, _, rfl⟩, fun d hd => ?_⟩ ?_
    · rintro d rest S ⟨⟨s5, s6, s7, s8, rfl⟩, hq⟩ Nx hN
      obtain ⟨q, rfl, q1, q2, q3⟩ := hq d List.mem_cons_self
      have dq : CDivW (r : Int) (q : Int) := divc_nat q1 (by omega)
      have hrq : 1 ≤ r / q := (Nat.le_div_iff_mul_le q1).mpr (by rw [Nat.one_mul]; exact Nat.le_of_dvd hr1 (Nat.dvd_of_mod_eq_zero q3))
      have hrq2 : r / q ≤ 1000000 := Nat.le_trans (Nat.div_le_self r q) hrb
      simp only [bl?, g2, gAdd, gDiv, gEq, gGe, gGt, gI, gIn, gInt, gIs, gIsNot, gLe, gLen, gList, gLt, gMM, gMod, gMul, gMulS, gNe, gNotIn, gPow, gSorted, gSub, gIadd, gSum, gTuple, puts, sV, sVs, slotM, wAnd, wApp, wAsg, wAug, wAugI, wB, wC, wCall, wCallR, wChain, wCons, wDraw, wDrop, wEnL, wEnT, wExt, wFn, wFnO, wFor, wGCons, wGNil, wGT, wIL, wIT, wIdx, wIf, wIfS, wIsi, wIx, wLc, wLst, wMNil, wMO, wMV, wMix, wN, wNeg, wNil, wNot, wNotT, wO, wOp, wOr, wOwn, wPar, wR1, wR2, wRaise, wRaiseF, wRet, wSeq, wSet, wSetI, wSkip, wTAnd, wTNot, wTOr, wTru, wTry, wTryF, wTup, wV, wYes, startS, List.length_cons, List.length_nil, List.map_cons, List.map_nil, List.getElem?_cons_zero, List.getElem?_cons_succ, List.set_cons_zero, List.set_cons_succ, List.cons_append, List.nil_append, List.append_nil, List.replicate_succ, List.replicate_zero, Nat.reduceAdd, Nat.reduceSub, ↓reduceIte, Bool.false_eq_true, reduceCtorEq, true_and, and_true, true_or, or_true, false_or, or_false, Bool.not_true, Bool.not_false, Bool.true_and, Bool.false_and, Bool.and_true, decide_eq_true_eq, Bool.not_eq_eq_eq_not, exists_eq_left, exists_eq_left', Option.some.injEq, flat_int, div_nat]
      refine ⟨dq, by decide, ?_⟩
      simp only [forL, bl?, g2, gAdd, gDiv, gEq, gGe, gGt, gI, gIn, gInt, gIs, gIsNot, gLe, gLen, gList, gLt, gMM, gMod, gMul, gMulS, gNe, gNotIn, gPow, gSorted, gSub, gIadd, gSum, gTuple, puts, sV, sVs, slotM, wAnd, wApp, wAsg, wAug, wAugI, wB, wC, wCall, wCallR, wChain, wCons, wDraw, wDrop, wEnL, wEnT, wExt, wFn, wFnO, wFor, wGCons, wGNil, wGT, wIL, wIT, wIdx, wIf, wIfS, wIsi, wIx, wLc, wLst, wMNil, wMO, wMV, wMix, wN, wNeg, wNil, wNot, wNotT, wO, wOp, wOr, wOwn, wPar, wR1, wR2, wRaise, wRaiseF, wRet, wSeq, wSet, wSetI, wSkip, wTAnd, wTNot, wTOr, wTru, wTry, wTryF, wTup, wV, wYes, startS, List.length_cons, List.length_nil, List.map_cons, List.map_nil, List.getElem?_cons_zero, List.getElem?_cons_succ, List.set_cons_zero, List.set_cons_succ, List.cons_append, List.nil_append, List.append_nil, List.replicate_succ, List.replicate_zero, Nat.reduceAdd, Nat.reduceSub, ↓reduceIte, Bool.false_eq_true, reduceCtorEq, true_and, and_true, true_or, or_true, false_or, or_false, Bool.not_true, Bool.not_false, Bool.true_and, Bool.false_and, Bool.and_true, decide_eq_true_eq, Bool.not_eq_eq_eq_not, exists_eq_left, exists_eq_left', Option.some.injEq, flat_int]
      refine turn q _ _ _ _ q1 (by omega) ?_
      simp only [startS, List.length_cons, List.length_nil, List.map_cons, List.map_nil, List.getElem?_cons_zero, List.getElem?_cons_succ, List.set_cons_zero, List.set_cons_succ, List.cons_append, List.nil_append, List.append_nil, List.replicate_succ, List.replicate_zero, Nat.reduceAdd, Nat.reduceSub, ↓reduceIte, Bool.false_eq_true, reduceCtorEq, true_and, and_true, true_or, or_true, false_or, or_false, Bool.not_true, Bool.not_false, Bool.true_and, Bool.false_and, Bool.and_true, decide_eq_true_eq, Bool.not_eq_eq_eq_not, exists_eq_left, exists_eq_left', Option.some.injEq]
      refine turn (r / q) _ _ _ _ hrq hrq2 ?_
      exact hN _ ⟨⟨_, _, _, _, rfl⟩, fun d hd => hq d (List.mem_cons_of_mem _ hd)⟩
    · rw [List.nil_append] at hd
      obtain ⟨i, hi, rfl⟩ := List.mem_map.mp hd
      obtain ⟨h1, h2⟩ := List.mem_filter.mp hi
      exact ⟨1 + i, rfl, by omega, by have := List.mem_range.mp h1; omega, of_decide_eq_true h2⟩
    · rintro S ⟨⟨s5, s6, s7, s8, rfl⟩, _⟩
      simp only [w_law_is_least_6, bl?, g2, gAdd, gDiv, gEq, gGe, gGt, gI, gIn, gInt, gIs, gIsNot, gLe, gLen, gList, gLt, gMM, gMod, gMul, gMulS, gNe, gNotIn, gPow, gSorted, gSub, gIadd, gSum, gTuple, puts, sV, sVs, slotM, wAnd, wApp, wAsg, wAug, wAugI, wB, wC, wCall, wCallR, wChain, wCons, wDraw, wDrop, wEnL, wEnT, wExt, wFn, wFnO, wFor, wGCons, wGNil, wGT, wIL, wIT, wIdx, wIf, wIfS, wIsi, wIx, wLc, wLst, wMNil, wMO, wMV, wMix, wN, wNeg, wNil, wNot, wNotT, wO, wOp, wOr, wOwn, wPar, wR1, wR2, wRaise, wRaiseF, wRet, wSeq, wSet, wSetI, wSkip, wTAnd, wTNot, wTOr, wTru, wTry, wTryF, wTup, wV, wYes, startS, List.length_cons, List.length_nil, List.map_cons, List.map_nil, List.getElem?_cons_zero, List.getElem?_cons_succ, List.set_cons_zero, List.set_cons_succ, List.cons_append, List.nil_append, List.append_nil, List.replicate_succ, List.replicate_zero, Nat.reduceAdd, Nat.reduceSub, ↓reduceIte, Bool.false_eq_true, reduceCtorEq, true_and, and_true, true_or, or_true, false_or, or_false, Bool.not_true, Bool.not_false, Bool.true_and, Bool.false_and, Bool.and_true, decide_eq_true_eq, Bool.not_eq_eq_eq_not, exists_eq_left, exists_eq_left', Option.some.injEq, at_0, shaped_int, eqv_int]
      by_cases c : f = 0
      · subst c
        simpa using hA
      · have c' : ¬ (f : Int) = 0 := by omega
        simp only [c', decide_false, startS, List.length_cons, List.length_nil, List.map_cons, List.map_nil, List.getElem?_cons_zero, List.getElem?_cons_succ, List.set_cons_zero, List.set_cons_succ, List.cons_append, List.nil_append, List.append_nil, List.replicate_succ, List.replicate_zero, Nat.reduceAdd, Nat.reduceSub, ↓reduceIte, Bool.false_eq_true, reduceCtorEq, true_and, and_true, true_or, or_true, false_or, or_false, Bool.not_true, Bool.not_false, Bool.true_and, Bool.false_and, Bool.and_true, decide_eq_true_eq, Bool.not_eq_eq_eq_not, exists_eq_left, exists_eq_left', Option.some.injEq]
        refine lpow_use (by omega) hpos hb fun v hv hvl => ?_
        refine ⟨mul_nat (by omega) (by omega), n0, ?_⟩
        rw [at_more hv]
        have ne : ¬ (((x * 2 ^ (f - 1 + r) % w : Nat) : Int) = ((x * 2 ^ (f - 1) % w : Nat) : Int)) := fun z => by
          have z' : x * 2 ^ (f - 1 + r) % w = x * 2 ^ (f - 1) % w := by omega
          have := ((ring_same o hr hl1 hl2 hr1).mp z').1
          omega
        simp only [ne, decide_false, startS, List.length_cons, List.length_nil, List.map_cons, List.map_nil, List.getElem?_cons_zero, List.getElem?_cons_succ, List.set_cons_zero, List.set_cons_succ, List.cons_append, List.nil_append, List.append_nil, List.replicate_succ, List.replicate_zero, Nat.reduceAdd, Nat.reduceSub, ↓reduceIte, Bool.false_eq_true, reduceCtorEq, true_and, and_true, true_or, or_true, false_or, or_false, Bool.not_true, Bool.not_false, Bool.true_and, Bool.false_and, Bool.and_true, decide_eq_true_eq, Bool.not_eq_eq_eq_not, exists_eq_left, exists_eq_left', Option.some.injEq]
        exact hA

/-! ### bounds -/
theorem split_two : ∀ n : Nat, 1 ≤ n → ∃ l f, n = l * 2 ^ f ∧ l % 2 = 1 := fun n => by
  induction n using Nat.strongRecOn with
  | ind n ih =>
    intro h
    by_cases c : n % 2 = 1
    · exact ⟨n, 0, by rw [Nat.pow_zero, Nat.mul_one], c⟩
    · obtain ⟨l, f, h1, h2⟩ := ih (n / 2) (by omega) (by omega)
      refine ⟨l, f + 1, ?_, h2⟩
      rw [Nat.pow_succ, ← Nat.mul_assoc, ← h1]
      omega
theorem EndIs.uniq {w x : Nat} {a b : Option Nat} (h1 : EndIs w x a) (h2 : EndIs w x b) : a = b := by
  cases a with
  | none =>
    cases b with
    | none => rfl
    | some k => exact absurd h2.1 (h1 k)
  | some i =>
    cases b with
    | none => exact absurd h1.1 (h2 i)
    | some k =>
      rcases Nat.lt_trichotomy i k with c | c | c
      · exact absurd h1.1 (h2.2 i c)
      · rw [c]
      · exact absurd h2.1 (h1.2 k c)
theorem end_small {w x k : Nat} (o : OkT w x) (h : EndIs w x (some k)) : 2 ^ k ≤ w := by
  obtain ⟨hq, hg⟩ := quot_pos o
  obtain ⟨l, f, h1, h2⟩ := split_two _ hq
  have q := EndIs.uniq h (end_is o h1 h2)
  by_cases c : l = 1
  · rw [if_pos c] at q
    cases q
    rw [c, Nat.one_mul] at h1
    rw [← h1]
    exact Nat.div_le_self _ _
  · rw [if_neg c] at q
    cases q
theorem two_lt {k n : Nat} (h : 2 ^ k ≤ n) : k < n + 1 := by
  have := Nat.lt_two_pow_self (n := k)
  omega
theorem end_110 {w x k : Nat} (o : OkT w x) (h : EndIs w x (some k)) : k ≤ 110 := by
  have q := end_small o h
  have hb := o.big
  rcases Nat.lt_or_ge 110 k with c | c
  · have q2 : 2 ^ 110 ≤ 2 ^ k := Nat.pow_le_pow_right (by decide) (by omega)
    have e : (2 : Nat) ^ 110 = 1298074214633706907132624082305024 := by decide
    omega
  · exact c
theorem ring_small {w x f r : Nat} (o : OkT w x) (h : RingIs w x f r) : 2 ^ f ≤ w ∧ r ≤ w := by
  obtain ⟨l, h1, h2, h3, h4⟩ := h.ex
  have hn : w / Nat.gcd x (w - x) ≤ w := Nat.div_le_self _ _
  have p := Nat.two_pow_pos f
  have hl : 1 ≤ l := by omega
  have b1 : 2 ^ f ≤ l * 2 ^ f := Nat.le_mul_of_pos_left _ hl
  have b2 : l ≤ l * 2 ^ f := Nat.le_mul_of_pos_right _ p
  refine ⟨by omega, ?_⟩
  have hr : r ≤ l := by
    obtain ⟨i, j, hij, hj, e⟩ := Nt.alike (fun k => 2 ^ k % l) l fun k => Nat.mod_lt _ (by omega)
    rcases Nat.lt_or_ge l r with c | c
    · exfalso
      refine h4.least (j - i) (by omega) (by omega) ?_
      have e1 : 2 ^ j = 2 ^ i * 2 ^ (j - i) := by rw [← Nat.pow_add]; congr 1; omega
      have d : l ∣ 2 ^ i * (2 ^ (j - i) - 1) := by
        rw [Nat.mul_sub, Nat.mul_one, ← e1]
        exact Nat.dvd_of_mod_eq_zero (Nat.sub_mod_eq_zero_of_mod_eq e.symm)
      exact (Nt.odd_cop h2 i).dvd_of_dvd_mul_left d
    · exact c
  omega
def w_law_1 : WS :=
    (wSet 2 (wCallR 1 sp_law_pair wNil))
def w_law_2 : WS :=
    (wPar 3 4 (wCons (wFn gSum (wCons (wV 2) wNil)) (wCons (wDraw 1 (wC (.int 130))) wNil)))
def w_law_3 : WS :=
    (wAsg (wCall sp_law_walk (wCons (wV 2) (wCons (wV 4) wNil))) (wGT 2 (wGCons (wN 5) (wGCons (wN 6) wGNil))))
def w_law_4 : WS :=
    (wIfS (wB (wOp gNe (wCall sp_after (wCons (wV 2) (wCons (wV 4) wNil))) (wV 5))) (wRet (wC (.bool false))) wSkip)
def w_law_5 : WS :=
    (wSet 7 (wCall sp_ends_after (wCons (wV 2) wNil)))
def w_law_6 : WS :=
    (wIfS (wTOr (wTAnd (wB (wOp gLt (wV 6) (wV 4))) (wB (wOp gNe (wV 7) (wV 6)))) (wTAnd (wB (wOp gEq (wFn (gMM min) (wCons (wV 2) wNil)) (wC (.int 0)))) (wB (wOp gNe (wV 7) (wC (.int 0)))))) (wRet (wC (.bool false))) wSkip)
def w_law_7_1 : WS :=
    (wIfS (wTOr (wB (wOp gNe (wIx (wCall sp_law_walk (wCons (wV 2) (wCons (wV 7) wNil))) (wC (.int 1))) (wV 7))) (wB (wOp gGt (wFn (gMM min) (wCons (wIx (wCall sp_law_walk (wCons (wV 2) (wCons (wV 7) wNil))) (wC (.int 0))) wNil)) (wC (.int 0))))) (wRet (wC (.bool false))) wSkip)
def w_law_7_2 : WS :=
    (wIfS (wTAnd (wB (wOp gGt (wV 7) (wC (.int 0)))) (wB (wOp gEq (wFn (gMM min) (wCons (wIx (wCall sp_law_walk (wCons (wV 2) (wCons (wOp gSub (wV 7) (wC (.int 1))) wNil))) (wC (.int 0))) wNil)) (wC (.int 0))))) (wRet (wC (.bool false))) wSkip)
def w_law_7 : WS :=
    (wIfS (wB (wOp gIsNot (wV 7) (wC .none))) (wSeq w_law_7_1
    w_law_7_2) wSkip)
def w_law_8 : WS :=
    (wIfS (wTAnd (wB (wOp gIs (wV 7) (wC .none))) (wB (wOp gEq (wFn (gMM min) (wCons (wIx (wCall sp_law_walk (wCons (wV 2) (wCons (wC (.int 130)) wNil))) (wC (.int 0))) wNil)) (wC (.int 0))))) (wRet (wC (.bool false))) wSkip)
def w_law_9 : WS :=
    (wSet 4 (wDraw 1 (wIx (wO (wLst (wCons (wOp gPow (wC (.int 10)) (wC (.int 3))) (wCons (wOp gPow (wC (.int 10)) (wC (.int 30))) wNil)))) (wDraw 1 (wC (.int 2))))))
def w_law_10 : WS :=
    (wSet 8 (wCall sp_after (wCons (wV 2) (wCons (wV 4) wNil))))
def w_law_11 : WS :=
    (wIfS (wTOr (wB (wOp gNe (wFn gSum (wCons (wV 8) wNil)) (wV 3))) (wTAnd (wB (wOp gIs (wV 7) (wC .none))) (wB (wOp gNe (wIx (wV 8) (wC (.int 0))) (wOp gMod (wFn gInt (wCons (wOp gMul (wIx (wV 2) (wC (.int 0))) (wCall sp_law_power (wCons (wV 4) (wCons (wV 3) wNil)))) wNil)) (wV 3)))))) (wRet (wC (.bool false))) wSkip)
def w_law_12 : WS :=
    (wIfS (wTAnd (wB (wOp gIsNot (wV 7) (wC .none))) (wB (wOp gNe (wV 8) (wIx (wCall sp_law_walk (wCons (wV 2) (wCons (wFn (g2 fun i j => if j < i then j else i) (wCons (wV 4) (wCons (wV 7) wNil))) wNil))) (wC (.int 0)))))) (wRet (wC (.bool false))) wSkip)
def w_law_13 : WS :=
    (wSet 9 (wCall sp_law_told (wCons (wV 2) wNil)))
def w_law_14 : WS :=
    (wIfS (wB (wOp gGt (wV 3) (wOp gPow (wC (.int 10)) (wC (.int 6))))) (wRet (wOp gIs (wV 9) (wC .none))) wSkip)
def w_law_15 : WS :=
    (wIfS (wTAnd (wB (wOp gGt (wV 3) (wC (.int 300)))) (wB (wOp gGt (wIx (wV 9) (wC (.int 1))) (wC (.int 300))))) (wRet (wCall sp_law_is_least (wCons (wV 2) (wCons (wIx (wV 9) (wC (.int 0))) (wCons (wIx (wV 9) (wC (.int 1))) wNil))))) wSkip)
def w_law_16 : WS :=
    (wRet (wOp gEq (wV 9) (wCall sp_law_ring (wCons (wV 2) wNil))))
def w_law : WS :=
    (wSeq w_law_1
    (wSeq w_law_2
    (wSeq w_law_3
    (wSeq w_law_4
    (wSeq w_law_5
    (wSeq w_law_6
    (wSeq w_law_7
    (wSeq w_law_8
    (wSeq w_law_9
    (wSeq w_law_10
    (wSeq w_law_11
    (wSeq w_law_12
    (wSeq w_law_13
    (wSeq w_law_14
    (wSeq w_law_15
    w_law_16)))))))))))))))
theorem pure_law : ∀ a c, w_law ((List.replicate 10 Slot.un).set 1 (.rng a c)) ⟨fun _ => False, fun d _ _ => d = .bool true, fun _ => False, fun _ => False, fun _ _ => False⟩ := by
  intro a c
  have e31 : (10 : Int) ^ 31 = 10000000000000000000000000000000 := by decide
  simp only [w_law, w_law_1, bl?, g2, gAdd, gDiv, gEq, gGe, gGt, gI, gIn, gInt, gIs, gIsNot, gLe, gLen, gList, gLt, gMM, gMod, gMul, gMulS, gNe, gNotIn, gPow, gSorted, gSub, gIadd, gSum, gTuple, puts, sV, sVs, slotM, wAnd, wApp, wAsg, wAug, wAugI, wB, wC, wCall, wCallR, wChain, wCons, wDraw, wDrop, wEnL, wEnT, wExt, wFn, wFnO, wFor, wGCons, wGNil, wGT, wIL, wIT, wIdx, wIf, wIfS, wIsi, wIx, wLc, wLst, wMNil, wMO, wMV, wMix, wN, wNeg, wNil, wNot, wNotT, wO, wOp, wOr, wOwn, wPar, wR1, wR2, wRaise, wRaiseF, wRet, wSeq, wSet, wSetI, wSkip, wTAnd, wTNot, wTOr, wTru, wTry, wTryF, wTup, wV, wYes, startS, List.length_cons, List.length_nil, List.map_cons, List.map_nil, List.getElem?_cons_zero, List.getElem?_cons_succ, List.set_cons_zero, List.set_cons_succ, List.cons_append, List.nil_append, List.append_nil, List.replicate_succ, List.replicate_zero, Nat.reduceAdd, Nat.reduceSub, ↓reduceIte, Bool.false_eq_true, reduceCtorEq, true_and, and_true, true_or, or_true, false_or, or_false, Bool.not_true, Bool.not_false, Bool.true_and, Bool.false_and, Bool.and_true, decide_eq_true_eq, Bool.not_eq_eq_eq_not, exists_eq_left, exists_eq_left', Option.some.injEq]
  refine ⟨a, c, rfl, rfl, rfl, fun w x o => ?_⟩
  have hle := o.le
  have hpos := o.pos
  have hb := o.big
  have n0 : (w : Int) ≠ 0 := by omega
  have fT : ∀ x, flat (eT w x) = true := fun x => flat_eH _
  have hmin : ∀ t, (List.foldl min ((st w x t : Nat) : Int) [((w - st w x t : Nat) : Int)] = 0) ↔ w ∣ x * 2 ^ t := fun t => (min_T (st_le o)).trans (st_zero o)
  have hmin0 : (List.foldl min (x : Int) [((w - x : Nat) : Int)] = 0) ↔ w ∣ x * 2 ^ 0 := hmin 0
  have ip : ∀ y, ints? [.int ((y : Nat) : Int), .int ((w - y : Nat) : Int)] = some [(y : Int), ((w - y : Nat) : Int)] := fun y => ints?_map [(y : Int), ((w - y : Nat) : Int)]
  simp only [w_law_2, bl?, g2, gAdd, gDiv, gEq, gGe, gGt, gI, gIn, gInt, gIs, gIsNot, gLe, gLen, gList, gLt, gMM, gMod, gMul, gMulS, gNe, gNotIn, gPow, gSorted, gSub, gIadd, gSum, gTuple, puts, sV, sVs, slotM, wAnd, wApp, wAsg, wAug, wAugI, wB, wC, wCall, wCallR, wChain, wCons, wDraw, wDrop, wEnL, wEnT, wExt, wFn, wFnO, wFor, wGCons, wGNil, wGT, wIL, wIT, wIdx, wIf, wIfS, wIsi, wIx, wLc, wLst, wMNil, wMO, wMV, wMix, wN, wNeg, wNil, wNot, wNotT, wO, wOp, wOr, wOwn, wPar, wR1, wR2, wRaise, wRaiseF, wRet, wSeq, wSet, wSetI, wSkip, wTAnd, wTNot, wTOr, wTru, wTry, wTryF, wTup, wV, wYes, startS, List.length_cons, List.length_nil, List.map_cons, List.map_nil, List.getElem?_cons_zero, List.getElem?_cons_succ, List.set_cons_zero, List.set_cons_succ, List.cons_append, List.nil_append, List.append_nil, List.replicate_succ, List.replicate_zero, Nat.reduceAdd, Nat.reduceSub, ↓reduceIte, Bool.false_eq_true, reduceCtorEq, true_and, and_true, true_or, or_true, false_or, or_false, Bool.not_true, Bool.not_false, Bool.true_and, Bool.false_and, Bool.and_true, decide_eq_true_eq, Bool.not_eq_eq_eq_not, exists_eq_left, exists_eq_left', Option.some.injEq, eT, eH, flats]
  refine ⟨_, ip x, a, c, rfl, rfl, by decide, by rw [e31]; decide, fun r r0 r1 => ?_⟩
  obtain ⟨m, rfl⟩ := Int.eq_ofNat_of_zero_le r0
  have hm : m < 130 := by omega
  rw [sum_T hle]
  simp only [w_law_3, bl?, g2, gAdd, gDiv, gEq, gGe, gGt, gI, gIn, gInt, gIs, gIsNot, gLe, gLen, gList, gLt, gMM, gMod, gMul, gMulS, gNe, gNotIn, gPow, gSorted, gSub, gIadd, gSum, gTuple, puts, sV, sVs, slotM, wAnd, wApp, wAsg, wAug, wAugI, wB, wC, wCall, wCallR, wChain, wCons, wDraw, wDrop, wEnL, wEnT, wExt, wFn, wFnO, wFor, wGCons, wGNil, wGT, wIL, wIT, wIdx, wIf, wIfS, wIsi, wIx, wLc, wLst, wMNil, wMO, wMV, wMix, wN, wNeg, wNil, wNot, wNotT, wO, wOp, wOr, wOwn, wPar, wR1, wR2, wRaise, wRaiseF, wRet, wSeq, wSet, wSetI, wSkip, wTAnd, wTNot, wTOr, wTru, wTry, wTryF, wTup, wV, wYes, startS, List.length_cons, List.length_nil, List.map_cons, List.map_nil, List.getElem?_cons_zero, List.getElem?_cons_succ, List.set_cons_zero, List.set_cons_succ, List.cons_append, List.nil_append, List.append_nil, List.replicate_succ, List.replicate_zero, Nat.reduceAdd, Nat.reduceSub, ↓reduceIte, Bool.false_eq_true, reduceCtorEq, true_and, and_true, true_or, or_true, false_or, or_false, Bool.not_true, Bool.not_false, Bool.true_and, Bool.false_and, Bool.and_true, decide_eq_true_eq, Bool.not_eq_eq_eq_not, exists_eq_left, exists_eq_left', Option.some.injEq, flat]
  refine ⟨w, x, m, rfl, o, by omega, fun t ht => ?_⟩
  simp only [startS, List.length_cons, List.length_nil, List.map_cons, List.map_nil, List.getElem?_cons_zero, List.getElem?_cons_succ, List.set_cons_zero, List.set_cons_succ, List.cons_append, List.nil_append, List.append_nil, List.replicate_succ, List.replicate_zero, Nat.reduceAdd, Nat.reduceSub, ↓reduceIte, Bool.false_eq_true, reduceCtorEq, true_and, and_true, true_or, or_true, false_or, or_false, Bool.not_true, Bool.not_false, Bool.true_and, Bool.false_and, Bool.and_true, decide_eq_true_eq, Bool.not_eq_eq_eq_not, exists_eq_left, exists_eq_left', Option.some.injEq, flat_int, fT, w_law_4, bl?, g2, gAdd, gDiv, gEq, gGe, gGt, gI, gIn, gInt, gIs, gIsNot, gLe, gLen, gList, gLt, gMM, gMod, gMul, gMulS, gNe, gNotIn, gPow, gSorted, gSub, gIadd, gSum, gTuple, puts, sV, sVs, slotM, wAnd, wApp, wAsg, wAug, wAugI, wB, wC, wCall, wCallR, wChain, wCons, wDraw, wDrop, wEnL, wEnT, wExt, wFn, wFnO, wFor, wGCons, wGNil, wGT, wIL, wIT, wIdx, wIf, wIfS, wIsi, wIx, wLc, wLst, wMNil, wMO, wMV, wMix, wN, wNeg, wNil, wNot, wNotT, wO, wOp, wOr, wOwn, wPar, wR1, wR2, wRaise, wRaiseF, wRet, wSeq, wSet, wSetI, wSkip, wTAnd, wTNot, wTOr, wTru, wTry, wTryF, wTup, wV, wYes]
  refine ⟨w, x, m, rfl, o, by omega, fun t' ht' => ?_⟩
  have et : t' = t := ht'.uniq ht
  subst et
  have shT : ∀ y, SeqAt.shaped (eT w y) = true := fun y => shaped_eH _
  have rfT : ∀ y, PyData.eqv (eT w y) (eT w y) = true := fun y => by unfold eT; rw [eqv_eH]; exact decide_eq_true rfl
  simp only [shT, rfT, startS, List.length_cons, List.length_nil, List.map_cons, List.map_nil, List.getElem?_cons_zero, List.getElem?_cons_succ, List.set_cons_zero, List.set_cons_succ, List.cons_append, List.nil_append, List.append_nil, List.replicate_succ, List.replicate_zero, Nat.reduceAdd, Nat.reduceSub, ↓reduceIte, Bool.false_eq_true, reduceCtorEq, true_and, and_true, true_or, or_true, false_or, or_false, Bool.not_true, Bool.not_false, Bool.true_and, Bool.false_and, Bool.and_true, decide_eq_true_eq, Bool.not_eq_eq_eq_not, exists_eq_left, exists_eq_left', Option.some.injEq, w_law_5, bl?, g2, gAdd, gDiv, gEq, gGe, gGt, gI, gIn, gInt, gIs, gIsNot, gLe, gLen, gList, gLt, gMM, gMod, gMul, gMulS, gNe, gNotIn, gPow, gSorted, gSub, gIadd, gSum, gTuple, puts, sV, sVs, slotM, wAnd, wApp, wAsg, wAug, wAugI, wB, wC, wCall, wCallR, wChain, wCons, wDraw, wDrop, wEnL, wEnT, wExt, wFn, wFnO, wFor, wGCons, wGNil, wGT, wIL, wIT, wIdx, wIf, wIfS, wIsi, wIx, wLc, wLst, wMNil, wMO, wMV, wMix, wN, wNeg, wNil, wNot, wNotT, wO, wOp, wOr, wOwn, wPar, wR1, wR2, wRaise, wRaiseF, wRet, wSeq, wSet, wSetI, wSkip, wTAnd, wTNot, wTOr, wTru, wTry, wTryF, wTup, wV, wYes]
  refine ⟨w, x, rfl, o, fun e he => ?_⟩
  have shE : SeqAt.shaped (eO e) = true := by cases e <;> first | exact shaped_none | exact shaped_int _
  have flE : flat (eO e) = true := flat_eO e
  simp only [flE, startS, List.length_cons, List.length_nil, List.map_cons, List.map_nil, List.getElem?_cons_zero, List.getElem?_cons_succ, List.set_cons_zero, List.set_cons_succ, List.cons_append, List.nil_append, List.append_nil, List.replicate_succ, List.replicate_zero, Nat.reduceAdd, Nat.reduceSub, ↓reduceIte, Bool.false_eq_true, reduceCtorEq, true_and, and_true, true_or, or_true, false_or, or_false, Bool.not_true, Bool.not_false, Bool.true_and, Bool.false_and, Bool.and_true, decide_eq_true_eq, Bool.not_eq_eq_eq_not, exists_eq_left, exists_eq_left', Option.some.injEq]
  have h6a : t' < m → e = some t' := fun c => he.uniq (b := some t') ⟨ht.at_.resolve_left (by omega), ht.no⟩
  have h6b : w ∣ x * 2 ^ 0 → e = some 0 := fun c => he.uniq (b := some 0) ⟨c, fun i hi => by omega⟩
  have cut6 : ∀ P : En, P.nx [.un, .rng a c, .im (.tuple [.int (x : Int), .int ((w - x : Nat) : Int)]), .im (.int (w : Int)), .im (.int (m : Int)), .im (eT w (st w x t')), .im (.int (t' : Int)), .im (eO e), .un, .un] → w_law_6 [.un, .rng a c, .im (.tuple [.int (x : Int), .int ((w - x : Nat) : Int)]), .im (.int (w : Int)), .im (.int (m : Int)), .im (eT w (st w x t')), .im (.int (t' : Int)), .im (eO e), .un, .un] P := fun P hP => by
    simp only [w_law_6, bl?, g2, gAdd, gDiv, gEq, gGe, gGt, gI, gIn, gInt, gIs, gIsNot, gLe, gLen, gList, gLt, gMM, gMod, gMul, gMulS, gNe, gNotIn, gPow, gSorted, gSub, gIadd, gSum, gTuple, puts, sV, sVs, slotM, wAnd, wApp, wAsg, wAug, wAugI, wB, wC, wCall, wCallR, wChain, wCons, wDraw, wDrop, wEnL, wEnT, wExt, wFn, wFnO, wFor, wGCons, wGNil, wGT, wIL, wIT, wIdx, wIf, wIfS, wIsi, wIx, wLc, wLst, wMNil, wMO, wMV, wMix, wN, wNeg, wNil, wNot, wNotT, wO, wOp, wOr, wOwn, wPar, wR1, wR2, wRaise, wRaiseF, wRet, wSeq, wSet, wSetI, wSkip, wTAnd, wTNot, wTOr, wTru, wTry, wTryF, wTup, wV, wYes, startS, List.length_cons, List.length_nil, List.map_cons, List.map_nil, List.getElem?_cons_zero, List.getElem?_cons_succ, List.set_cons_zero, List.set_cons_succ, List.cons_append, List.nil_append, List.append_nil, List.replicate_succ, List.replicate_zero, Nat.reduceAdd, Nat.reduceSub, ↓reduceIte, Bool.false_eq_true, reduceCtorEq, true_and, and_true, true_or, or_true, false_or, or_false, Bool.not_true, Bool.not_false, Bool.true_and, Bool.false_and, Bool.and_true, decide_eq_true_eq, Bool.not_eq_eq_eq_not, exists_eq_left, exists_eq_left', Option.some.injEq, shE, shaped_int]
    have second : ∃ n ns, ints? [PyData.int (x : Int), .int ((w - x : Nat) : Int)] = some (n :: ns) ∧ (if (PyData.int (List.foldl min n ns)).eqv (.int 0) = true then (if (eO e).eqv (.int 0) = false then P.rt (.bool false) True [.un, .rng a c, .im (.tuple [.int (x : Int), .int ((w - x : Nat) : Int)]), .im (.int (w : Int)), .im (.int (m : Int)), .im (eT w (st w x t')), .im (.int (t' : Int)), .im (eO e), .un, .un] else P.nx [.un, .rng a c, .im (.tuple [.int (x : Int), .int ((w - x : Nat) : Int)]), .im (.int (w : Int)), .im (.int (m : Int)), .im (eT w (st w x t')), .im (.int (t' : Int)), .im (eO e), .un, .un]) else P.nx [.un, .rng a c, .im (.tuple [.int (x : Int), .int ((w - x : Nat) : Int)]), .im (.int (w : Int)), .im (.int (m : Int)), .im (eT w (st w x t')), .im (.int (t' : Int)), .im (eO e), .un, .un]) := by
      refine ⟨_, _, ip x, ?_⟩
      rw [eqv_int]
      by_cases hz : w ∣ x * 2 ^ 0
      · rw [if_pos (decide_eq_true (hmin0.mpr hz)), h6b hz]
        rw [h6b hz] at hP
        simp only [eO, eqv_int, Int.natCast_zero, decide_true, startS, List.length_cons, List.length_nil, List.map_cons, List.map_nil, List.getElem?_cons_zero, List.getElem?_cons_succ, List.set_cons_zero, List.set_cons_succ, List.cons_append, List.nil_append, List.append_nil, List.replicate_succ, List.replicate_zero, Nat.reduceAdd, Nat.reduceSub, ↓reduceIte, Bool.false_eq_true, reduceCtorEq, true_and, and_true, true_or, or_true, false_or, or_false, Bool.not_true, Bool.not_false, Bool.true_and, Bool.false_and, Bool.and_true, decide_eq_true_eq, Bool.not_eq_eq_eq_not, exists_eq_left, exists_eq_left', Option.some.injEq]
        exact hP
      · rw [if_neg (by rw [decide_eq_false (fun z => hz (hmin0.mp z))]; exact Bool.false_ne_true)]
        exact hP
    by_cases c : t' < m
    · have c' : (t' : Int) < m := by omega
      have e1 := h6a c
      have e2 : PyData.eqv (eO e) (.int (t' : Int)) = true := by rw [e1]; show PyData.eqv (.int (t' : Int)) (.int (t' : Int)) = true; rw [eqv_int]; exact decide_eq_true rfl
      simp only [c', decide_true, e2, startS, List.length_cons, List.length_nil, List.map_cons, List.map_nil, List.getElem?_cons_zero, List.getElem?_cons_succ, List.set_cons_zero, List.set_cons_succ, List.cons_append, List.nil_append, List.append_nil, List.replicate_succ, List.replicate_zero, Nat.reduceAdd, Nat.reduceSub, ↓reduceIte, Bool.false_eq_true, reduceCtorEq, true_and, and_true, true_or, or_true, false_or, or_false, Bool.not_true, Bool.not_false, Bool.true_and, Bool.false_and, Bool.and_true, decide_eq_true_eq, Bool.not_eq_eq_eq_not, exists_eq_left, exists_eq_left', Option.some.injEq]
      exact second
    · have c' : ¬ (t' : Int) < m := by omega
      simp only [c', decide_false, startS, List.length_cons, List.length_nil, List.map_cons, List.map_nil, List.getElem?_cons_zero, List.getElem?_cons_succ, List.set_cons_zero, List.set_cons_succ, List.cons_append, List.nil_append, List.append_nil, List.replicate_succ, List.replicate_zero, Nat.reduceAdd, Nat.reduceSub, ↓reduceIte, Bool.false_eq_true, reduceCtorEq, true_and, and_true, true_or, or_true, false_or, or_false, Bool.not_true, Bool.not_false, Bool.true_and, Bool.false_and, Bool.and_true, decide_eq_true_eq, Bool.not_eq_eq_eq_not, exists_eq_left, exists_eq_left', Option.some.injEq]
      exact second
  refine cut6 _ ?_
  have cut7 : ∀ P : En, P.nx [.un, .rng a c, .im (.tuple [.int (x : Int), .int ((w - x : Nat) : Int)]), .im (.int (w : Int)), .im (.int (m : Int)), .im (eT w (st w x t')), .im (.int (t' : Int)), .im (eO e), .un, .un] → w_law_7 [.un, .rng a c, .im (.tuple [.int (x : Int), .int ((w - x : Nat) : Int)]), .im (.int (w : Int)), .im (.int (m : Int)), .im (eT w (st w x t')), .im (.int (t' : Int)), .im (eO e), .un, .un] P := fun P hP => by
    cases e with
    | none =>
      simp only [w_law_7, eO, bl?, g2, gAdd, gDiv, gEq, gGe, gGt, gI, gIn, gInt, gIs, gIsNot, gLe, gLen, gList, gLt, gMM, gMod, gMul, gMulS, gNe, gNotIn, gPow, gSorted, gSub, gIadd, gSum, gTuple, puts, sV, sVs, slotM, wAnd, wApp, wAsg, wAug, wAugI, wB, wC, wCall, wCallR, wChain, wCons, wDraw, wDrop, wEnL, wEnT, wExt, wFn, wFnO, wFor, wGCons, wGNil, wGT, wIL, wIT, wIdx, wIf, wIfS, wIsi, wIx, wLc, wLst, wMNil, wMO, wMV, wMix, wN, wNeg, wNil, wNot, wNotT, wO, wOp, wOr, wOwn, wPar, wR1, wR2, wRaise, wRaiseF, wRet, wSeq, wSet, wSetI, wSkip, wTAnd, wTNot, wTOr, wTru, wTry, wTryF, wTup, wV, wYes, startS, List.length_cons, List.length_nil, List.map_cons, List.map_nil, List.getElem?_cons_zero, List.getElem?_cons_succ, List.set_cons_zero, List.set_cons_succ, List.cons_append, List.nil_append, List.append_nil, List.replicate_succ, List.replicate_zero, Nat.reduceAdd, Nat.reduceSub, ↓reduceIte, Bool.false_eq_true, reduceCtorEq, true_and, and_true, true_or, or_true, false_or, or_false, Bool.not_true, Bool.not_false, Bool.true_and, Bool.false_and, Bool.and_true, decide_eq_true_eq, Bool.not_eq_eq_eq_not, exists_eq_left, exists_eq_left', Option.some.injEq]
      exact hP
    | some k =>
      have hk := end_110 o he
      have stopk : ∀ t, StopAt w x k t → t = k := fun t h => h.uniq ⟨Nat.le_refl k, he.2, .inl rfl⟩
      simp only [w_law_7, w_law_7_1, w_law_7_2, eO, bl?, g2, gAdd, gDiv, gEq, gGe, gGt, gI, gIn, gInt, gIs, gIsNot, gLe, gLen, gList, gLt, gMM, gMod, gMul, gMulS, gNe, gNotIn, gPow, gSorted, gSub, gIadd, gSum, gTuple, puts, sV, sVs, slotM, wAnd, wApp, wAsg, wAug, wAugI, wB, wC, wCall, wCallR, wChain, wCons, wDraw, wDrop, wEnL, wEnT, wExt, wFn, wFnO, wFor, wGCons, wGNil, wGT, wIL, wIT, wIdx, wIf, wIfS, wIsi, wIx, wLc, wLst, wMNil, wMO, wMV, wMix, wN, wNeg, wNil, wNot, wNotT, wO, wOp, wOr, wOwn, wPar, wR1, wR2, wRaise, wRaiseF, wRet, wSeq, wSet, wSetI, wSkip, wTAnd, wTNot, wTOr, wTru, wTry, wTryF, wTup, wV, wYes, startS, List.length_cons, List.length_nil, List.map_cons, List.map_nil, List.getElem?_cons_zero, List.getElem?_cons_succ, List.set_cons_zero, List.set_cons_succ, List.cons_append, List.nil_append, List.append_nil, List.replicate_succ, List.replicate_zero, Nat.reduceAdd, Nat.reduceSub, ↓reduceIte, Bool.false_eq_true, reduceCtorEq, true_and, and_true, true_or, or_true, false_or, or_false, Bool.not_true, Bool.not_false, Bool.true_and, Bool.false_and, Bool.and_true, decide_eq_true_eq, Bool.not_eq_eq_eq_not, exists_eq_left, exists_eq_left', Option.some.injEq]
      refine ⟨w, x, k, rfl, o, by omega, fun t h => ?_⟩
      cases stopk t h
      simp only [startS, List.length_cons, List.length_nil, List.map_cons, List.map_nil, List.getElem?_cons_zero, List.getElem?_cons_succ, List.set_cons_zero, List.set_cons_succ, List.cons_append, List.nil_append, List.append_nil, List.replicate_succ, List.replicate_zero, Nat.reduceAdd, Nat.reduceSub, ↓reduceIte, Bool.false_eq_true, reduceCtorEq, true_and, and_true, true_or, or_true, false_or, or_false, Bool.not_true, Bool.not_false, Bool.true_and, Bool.false_and, Bool.and_true, decide_eq_true_eq, Bool.not_eq_eq_eq_not, exists_eq_left, exists_eq_left', Option.some.injEq, at_1, at_0, shaped_int, eqv_int, decide_true]
      refine ⟨w, x, k, rfl, o, by omega, fun t h2 => ?_⟩
      cases stopk t h2
      simp only [startS, List.length_cons, List.length_nil, List.map_cons, List.map_nil, List.getElem?_cons_zero, List.getElem?_cons_succ, List.set_cons_zero, List.set_cons_succ, List.cons_append, List.nil_append, List.append_nil, List.replicate_succ, List.replicate_zero, Nat.reduceAdd, Nat.reduceSub, ↓reduceIte, Bool.false_eq_true, reduceCtorEq, true_and, and_true, true_or, or_true, false_or, or_false, Bool.not_true, Bool.not_false, Bool.true_and, Bool.false_and, Bool.and_true, decide_eq_true_eq, Bool.not_eq_eq_eq_not, exists_eq_left, exists_eq_left', Option.some.injEq, at_1, at_0, eT, eH]
      refine ⟨_, _, ip (st w x k), ?_⟩
      rw [(hmin k).mpr he.1]
      simp only [startS, List.length_cons, List.length_nil, List.map_cons, List.map_nil, List.getElem?_cons_zero, List.getElem?_cons_succ, List.set_cons_zero, List.set_cons_succ, List.cons_append, List.nil_append, List.append_nil, List.replicate_succ, List.replicate_zero, Nat.reduceAdd, Nat.reduceSub, ↓reduceIte, Bool.false_eq_true, reduceCtorEq, true_and, and_true, true_or, or_true, false_or, or_false, Bool.not_true, Bool.not_false, Bool.true_and, Bool.false_and, Bool.and_true, decide_eq_true_eq, Bool.not_eq_eq_eq_not, exists_eq_left, exists_eq_left', Option.some.injEq, Int.lt_irrefl, decide_false]
      by_cases ck : k = 0
      · subst ck
        have c0 : ¬ (0 : Int) < ((0 : Nat) : Int) := by omega
        simp only [c0, decide_false, startS, List.length_cons, List.length_nil, List.map_cons, List.map_nil, List.getElem?_cons_zero, List.getElem?_cons_succ, List.set_cons_zero, List.set_cons_succ, List.cons_append, List.nil_append, List.append_nil, List.replicate_succ, List.replicate_zero, Nat.reduceAdd, Nat.reduceSub, ↓reduceIte, Bool.false_eq_true, reduceCtorEq, true_and, and_true, true_or, or_true, false_or, or_false, Bool.not_true, Bool.not_false, Bool.true_and, Bool.false_and, Bool.and_true, decide_eq_true_eq, Bool.not_eq_eq_eq_not, exists_eq_left, exists_eq_left', Option.some.injEq]
        exact hP
      · have ck' : (0 : Int) < k := by omega
        simp only [ck', decide_true, startS, List.length_cons, List.length_nil, List.map_cons, List.map_nil, List.getElem?_cons_zero, List.getElem?_cons_succ, List.set_cons_zero, List.set_cons_succ, List.cons_append, List.nil_append, List.append_nil, List.replicate_succ, List.replicate_zero, Nat.reduceAdd, Nat.reduceSub, ↓reduceIte, Bool.false_eq_true, reduceCtorEq, true_and, and_true, true_or, or_true, false_or, or_false, Bool.not_true, Bool.not_false, Bool.true_and, Bool.false_and, Bool.and_true, decide_eq_true_eq, Bool.not_eq_eq_eq_not, exists_eq_left, exists_eq_left', Option.some.injEq]
        have e1 : (k : Int) - 1 = ((k - 1 : Nat) : Int) := by omega
        rw [e1]
        refine ⟨w, x, k - 1, rfl, o, by omega, fun t h3 => ?_⟩
        cases h3.uniq ⟨Nat.le_refl (k - 1), fun i hi => he.2 i (by omega), .inl rfl⟩
        simp only [startS, List.length_cons, List.length_nil, List.map_cons, List.map_nil, List.getElem?_cons_zero, List.getElem?_cons_succ, List.set_cons_zero, List.set_cons_succ, List.cons_append, List.nil_append, List.append_nil, List.replicate_succ, List.replicate_zero, Nat.reduceAdd, Nat.reduceSub, ↓reduceIte, Bool.false_eq_true, reduceCtorEq, true_and, and_true, true_or, or_true, false_or, or_false, Bool.not_true, Bool.not_false, Bool.true_and, Bool.false_and, Bool.and_true, decide_eq_true_eq, Bool.not_eq_eq_eq_not, exists_eq_left, exists_eq_left', Option.some.injEq, at_0, eT, eH]
        refine ⟨_, _, ip (st w x (k - 1)), ?_⟩
        rw [if_neg (fun z => he.2 (k - 1) (by omega) ((hmin (k - 1)).mp z))]
        exact hP
  refine cut7 _ ?_
  have cut8 : ∀ P : En, P.nx [.un, .rng a c, .im (.tuple [.int (x : Int), .int ((w - x : Nat) : Int)]), .im (.int (w : Int)), .im (.int (m : Int)), .im (eT w (st w x t')), .im (.int (t' : Int)), .im (eO e), .un, .un] → w_law_8 [.un, .rng a c, .im (.tuple [.int (x : Int), .int ((w - x : Nat) : Int)]), .im (.int (w : Int)), .im (.int (m : Int)), .im (eT w (st w x t')), .im (.int (t' : Int)), .im (eO e), .un, .un] P := fun P hP => by
    cases e with
    | some k =>
      simp only [w_law_8, eO, bl?, g2, gAdd, gDiv, gEq, gGe, gGt, gI, gIn, gInt, gIs, gIsNot, gLe, gLen, gList, gLt, gMM, gMod, gMul, gMulS, gNe, gNotIn, gPow, gSorted, gSub, gIadd, gSum, gTuple, puts, sV, sVs, slotM, wAnd, wApp, wAsg, wAug, wAugI, wB, wC, wCall, wCallR, wChain, wCons, wDraw, wDrop, wEnL, wEnT, wExt, wFn, wFnO, wFor, wGCons, wGNil, wGT, wIL, wIT, wIdx, wIf, wIfS, wIsi, wIx, wLc, wLst, wMNil, wMO, wMV, wMix, wN, wNeg, wNil, wNot, wNotT, wO, wOp, wOr, wOwn, wPar, wR1, wR2, wRaise, wRaiseF, wRet, wSeq, wSet, wSetI, wSkip, wTAnd, wTNot, wTOr, wTru, wTry, wTryF, wTup, wV, wYes, startS, List.length_cons, List.length_nil, List.map_cons, List.map_nil, List.getElem?_cons_zero, List.getElem?_cons_succ, List.set_cons_zero, List.set_cons_succ, List.cons_append, List.nil_append, List.append_nil, List.replicate_succ, List.replicate_zero, Nat.reduceAdd, Nat.reduceSub, ↓reduceIte, Bool.false_eq_true, reduceCtorEq, true_and, and_true, true_or, or_true, false_or, or_false, Bool.not_true, Bool.not_false, Bool.true_and, Bool.false_and, Bool.and_true, decide_eq_true_eq, Bool.not_eq_eq_eq_not, exists_eq_left, exists_eq_left', Option.some.injEq]
      exact hP
    | none =>
      simp only [w_law_8, eO, bl?, g2, gAdd, gDiv, gEq, gGe, gGt, gI, gIn, gInt, gIs, gIsNot, gLe, gLen, gList, gLt, gMM, gMod, gMul, gMulS, gNe, gNotIn, gPow, gSorted, gSub, gIadd, gSum, gTuple, puts, sV, sVs, slotM, wAnd, wApp, wAsg, wAug, wAugI, wB, wC, wCall, wCallR, wChain, wCons, wDraw, wDrop, wEnL, wEnT, wExt, wFn, wFnO, wFor, wGCons, wGNil, wGT, wIL, wIT, wIdx, wIf, wIfS, wIsi, wIx, wLc, wLst, wMNil, wMO, wMV, wMix, wN, wNeg, wNil, wNot, wNotT, wO, wOp, wOr, wOwn, wPar, wR1, wR2, wRaise, wRaiseF, wRet, wSeq, wSet, wSetI, wSkip, wTAnd, wTNot, wTOr, wTru, wTry, wTryF, wTup, wV, wYes, startS, List.length_cons, List.length_nil, List.map_cons, List.map_nil, List.getElem?_cons_zero, List.getElem?_cons_succ, List.set_cons_zero, List.set_cons_succ, List.cons_append, List.nil_append, List.append_nil, List.replicate_succ, List.replicate_zero, Nat.reduceAdd, Nat.reduceSub, ↓reduceIte, Bool.false_eq_true, reduceCtorEq, true_and, and_true, true_or, or_true, false_or, or_false, Bool.not_true, Bool.not_false, Bool.true_and, Bool.false_and, Bool.and_true, decide_eq_true_eq, Bool.not_eq_eq_eq_not, exists_eq_left, exists_eq_left', Option.some.injEq]
      refine ⟨w, x, 130, rfl, o, by decide, fun t h3 => ?_⟩
      cases h3.uniq ⟨Nat.le_refl 130, fun i hi => he i, .inl rfl⟩
      simp only [startS, List.length_cons, List.length_nil, List.map_cons, List.map_nil, List.getElem?_cons_zero, List.getElem?_cons_succ, List.set_cons_zero, List.set_cons_succ, List.cons_append, List.nil_append, List.append_nil, List.replicate_succ, List.replicate_zero, Nat.reduceAdd, Nat.reduceSub, ↓reduceIte, Bool.false_eq_true, reduceCtorEq, true_and, and_true, true_or, or_true, false_or, or_false, Bool.not_true, Bool.not_false, Bool.true_and, Bool.false_and, Bool.and_true, decide_eq_true_eq, Bool.not_eq_eq_eq_not, exists_eq_left, exists_eq_left', Option.some.injEq, at_0, eT, eH]
      refine ⟨_, _, ip (st w x 130), shaped_int _, shaped_int _, ?_⟩
      rw [eqv_int, if_neg (by rw [decide_eq_false (fun z => he 130 ((hmin 130).mp z))]; exact Bool.false_ne_true)]
      exact hP
  refine cut8 _ ?_
  have p1 : CPow 10 3 := ⟨by decide, by decide, by decide⟩
  have p2 : CPow 10 30 := ⟨by decide, by decide, by decide⟩
  simp only [w_law_9, bl?, g2, gAdd, gDiv, gEq, gGe, gGt, gI, gIn, gInt, gIs, gIsNot, gLe, gLen, gList, gLt, gMM, gMod, gMul, gMulS, gNe, gNotIn, gPow, gSorted, gSub, gIadd, gSum, gTuple, puts, sV, sVs, slotM, wAnd, wApp, wAsg, wAug, wAugI, wB, wC, wCall, wCallR, wChain, wCons, wDraw, wDrop, wEnL, wEnT, wExt, wFn, wFnO, wFor, wGCons, wGNil, wGT, wIL, wIT, wIdx, wIf, wIfS, wIsi, wIx, wLc, wLst, wMNil, wMO, wMV, wMix, wN, wNeg, wNil, wNot, wNotT, wO, wOp, wOr, wOwn, wPar, wR1, wR2, wRaise, wRaiseF, wRet, wSeq, wSet, wSetI, wSkip, wTAnd, wTNot, wTOr, wTru, wTry, wTryF, wTup, wV, wYes, startS, List.length_cons, List.length_nil, List.map_cons, List.map_nil, List.getElem?_cons_zero, List.getElem?_cons_succ, List.set_cons_zero, List.set_cons_succ, List.cons_append, List.nil_append, List.append_nil, List.replicate_succ, List.replicate_zero, Nat.reduceAdd, Nat.reduceSub, ↓reduceIte, Bool.false_eq_true, reduceCtorEq, true_and, and_true, true_or, or_true, false_or, or_false, Bool.not_true, Bool.not_false, Bool.true_and, Bool.false_and, Bool.and_true, decide_eq_true_eq, Bool.not_eq_eq_eq_not, exists_eq_left, exists_eq_left', Option.some.injEq]
  refine ⟨a, c, rfl, p1, p2, by decide, a, c, rfl, rfl, by decide, by rw [e31]; decide, fun r r0 r1 => ?_⟩
  obtain ⟨z, ez, z1, z2⟩ : ∃ z : Int, atD [PyData.int ((10 : Int) ^ (3 : Int).toNat), .int ((10 : Int) ^ (30 : Int).toNat)] r = some (.int z) ∧ 1 ≤ z ∧ z ≤ 1000000000000000000000000000000 := by
    have e : r = 0 ∨ r = 1 := by omega
    rcases e with e | e <;> subst e <;> exact ⟨_, rfl, by decide, by decide⟩
  refine ⟨_, ez, rfl, z1, by rw [e31]; omega, fun r r0 r1 => ?_⟩
  obtain ⟨M, rfl⟩ := Int.eq_ofNat_of_zero_le r0
  have hM : M ≤ 1000000000000000000000000000000 := by omega
  clear ez p1 p2
  simp only [w_law_10, bl?, g2, gAdd, gDiv, gEq, gGe, gGt, gI, gIn, gInt, gIs, gIsNot, gLe, gLen, gList, gLt, gMM, gMod, gMul, gMulS, gNe, gNotIn, gPow, gSorted, gSub, gIadd, gSum, gTuple, puts, sV, sVs, slotM, wAnd, wApp, wAsg, wAug, wAugI, wB, wC, wCall, wCallR, wChain, wCons, wDraw, wDrop, wEnL, wEnT, wExt, wFn, wFnO, wFor, wGCons, wGNil, wGT, wIL, wIT, wIdx, wIf, wIfS, wIsi, wIx, wLc, wLst, wMNil, wMO, wMV, wMix, wN, wNeg, wNil, wNot, wNotT, wO, wOp, wOr, wOwn, wPar, wR1, wR2, wRaise, wRaiseF, wRet, wSeq, wSet, wSetI, wSkip, wTAnd, wTNot, wTOr, wTru, wTry, wTryF, wTup, wV, wYes, startS, List.length_cons, List.length_nil, List.map_cons, List.map_nil, List.getElem?_cons_zero, List.getElem?_cons_succ, List.set_cons_zero, List.set_cons_succ, List.cons_append, List.nil_append, List.append_nil, List.replicate_succ, List.replicate_zero, Nat.reduceAdd, Nat.reduceSub, ↓reduceIte, Bool.false_eq_true, reduceCtorEq, true_and, and_true, true_or, or_true, false_or, or_false, Bool.not_true, Bool.not_false, Bool.true_and, Bool.false_and, Bool.and_true, decide_eq_true_eq, Bool.not_eq_eq_eq_not, exists_eq_left, exists_eq_left', Option.some.injEq]
  refine ⟨w, x, M, rfl, o, hM, fun T hT => ?_⟩
  have hTl := st_le (t := T) o
  simp only [fT, startS, List.length_cons, List.length_nil, List.map_cons, List.map_nil, List.getElem?_cons_zero, List.getElem?_cons_succ, List.set_cons_zero, List.set_cons_succ, List.cons_append, List.nil_append, List.append_nil, List.replicate_succ, List.replicate_zero, Nat.reduceAdd, Nat.reduceSub, ↓reduceIte, Bool.false_eq_true, reduceCtorEq, true_and, and_true, true_or, or_true, false_or, or_false, Bool.not_true, Bool.not_false, Bool.true_and, Bool.false_and, Bool.and_true, decide_eq_true_eq, Bool.not_eq_eq_eq_not, exists_eq_left, exists_eq_left', Option.some.injEq]
  have cut11 : ∀ P : En, P.nx [.un, .rng a c, .im (.tuple [.int (x : Int), .int ((w - x : Nat) : Int)]), .im (.int (w : Int)), .im (.int (M : Int)), .im (eT w (st w x t')), .im (.int (t' : Int)), .im (eO e), .im (eT w (st w x T)), .un] → w_law_11 [.un, .rng a c, .im (.tuple [.int (x : Int), .int ((w - x : Nat) : Int)]), .im (.int (w : Int)), .im (.int (M : Int)), .im (eT w (st w x t')), .im (.int (t' : Int)), .im (eO e), .im (eT w (st w x T)), .un] P := fun P hP => by
    simp only [w_law_11, bl?, g2, gAdd, gDiv, gEq, gGe, gGt, gI, gIn, gInt, gIs, gIsNot, gLe, gLen, gList, gLt, gMM, gMod, gMul, gMulS, gNe, gNotIn, gPow, gSorted, gSub, gIadd, gSum, gTuple, puts, sV, sVs, slotM, wAnd, wApp, wAsg, wAug, wAugI, wB, wC, wCall, wCallR, wChain, wCons, wDraw, wDrop, wEnL, wEnT, wExt, wFn, wFnO, wFor, wGCons, wGNil, wGT, wIL, wIT, wIdx, wIf, wIfS, wIsi, wIx, wLc, wLst, wMNil, wMO, wMV, wMix, wN, wNeg, wNil, wNot, wNotT, wO, wOp, wOr, wOwn, wPar, wR1, wR2, wRaise, wRaiseF, wRet, wSeq, wSet, wSetI, wSkip, wTAnd, wTNot, wTOr, wTru, wTry, wTryF, wTup, wV, wYes, startS, List.length_cons, List.length_nil, List.map_cons, List.map_nil, List.getElem?_cons_zero, List.getElem?_cons_succ, List.set_cons_zero, List.set_cons_succ, List.cons_append, List.nil_append, List.append_nil, List.replicate_succ, List.replicate_zero, Nat.reduceAdd, Nat.reduceSub, ↓reduceIte, Bool.false_eq_true, reduceCtorEq, true_and, and_true, true_or, or_true, false_or, or_false, Bool.not_true, Bool.not_false, Bool.true_and, Bool.false_and, Bool.and_true, decide_eq_true_eq, Bool.not_eq_eq_eq_not, exists_eq_left, exists_eq_left', Option.some.injEq, eT, eH, at_0, flat_int]
    refine ⟨_, ip (st w x T), shaped_int _, shaped_int _, ?_⟩
    rw [sum_T hTl, eqv_int, decide_eq_true rfl]
    cases e with
    | some k =>
      simp only [eO, bl?, g2, gAdd, gDiv, gEq, gGe, gGt, gI, gIn, gInt, gIs, gIsNot, gLe, gLen, gList, gLt, gMM, gMod, gMul, gMulS, gNe, gNotIn, gPow, gSorted, gSub, gIadd, gSum, gTuple, puts, sV, sVs, slotM, wAnd, wApp, wAsg, wAug, wAugI, wB, wC, wCall, wCallR, wChain, wCons, wDraw, wDrop, wEnL, wEnT, wExt, wFn, wFnO, wFor, wGCons, wGNil, wGT, wIL, wIT, wIdx, wIf, wIfS, wIsi, wIx, wLc, wLst, wMNil, wMO, wMV, wMix, wN, wNeg, wNil, wNot, wNotT, wO, wOp, wOr, wOwn, wPar, wR1, wR2, wRaise, wRaiseF, wRet, wSeq, wSet, wSetI, wSkip, wTAnd, wTNot, wTOr, wTru, wTry, wTryF, wTup, wV, wYes, startS, List.length_cons, List.length_nil, List.map_cons, List.map_nil, List.getElem?_cons_zero, List.getElem?_cons_succ, List.set_cons_zero, List.set_cons_succ, List.cons_append, List.nil_append, List.append_nil, List.replicate_succ, List.replicate_zero, Nat.reduceAdd, Nat.reduceSub, ↓reduceIte, Bool.false_eq_true, reduceCtorEq, true_and, and_true, true_or, or_true, false_or, or_false, Bool.not_true, Bool.not_false, Bool.true_and, Bool.false_and, Bool.and_true, decide_eq_true_eq, Bool.not_eq_eq_eq_not, exists_eq_left, exists_eq_left', Option.some.injEq]
      exact hP
    | none =>
      simp only [eO, bl?, g2, gAdd, gDiv, gEq, gGe, gGt, gI, gIn, gInt, gIs, gIsNot, gLe, gLen, gList, gLt, gMM, gMod, gMul, gMulS, gNe, gNotIn, gPow, gSorted, gSub, gIadd, gSum, gTuple, puts, sV, sVs, slotM, wAnd, wApp, wAsg, wAug, wAugI, wB, wC, wCall, wCallR, wChain, wCons, wDraw, wDrop, wEnL, wEnT, wExt, wFn, wFnO, wFor, wGCons, wGNil, wGT, wIL, wIT, wIdx, wIf, wIfS, wIsi, wIx, wLc, wLst, wMNil, wMO, wMV, wMix, wN, wNeg, wNil, wNot, wNotT, wO, wOp, wOr, wOwn, wPar, wR1, wR2, wRaise, wRaiseF, wRet, wSeq, wSet, wSetI, wSkip, wTAnd, wTNot, wTOr, wTru, wTry, wTryF, wTup, wV, wYes, startS, List.length_cons, List.length_nil, List.map_cons, List.map_nil, List.getElem?_cons_zero, List.getElem?_cons_succ, List.set_cons_zero, List.set_cons_succ, List.cons_append, List.nil_append, List.append_nil, List.replicate_succ, List.replicate_zero, Nat.reduceAdd, Nat.reduceSub, ↓reduceIte, Bool.false_eq_true, reduceCtorEq, true_and, and_true, true_or, or_true, false_or, or_false, Bool.not_true, Bool.not_false, Bool.true_and, Bool.false_and, Bool.and_true, decide_eq_true_eq, Bool.not_eq_eq_eq_not, exists_eq_left, exists_eq_left', Option.some.injEq]
      have eTM : T = M := hT.at_.resolve_right (he T)
      have hx : x < w := by
        have q := he 0
        rw [Nat.pow_zero, Nat.mul_one] at q
        rcases Nat.lt_or_ge x w with k | k
        · exact k
        · have e1 : x = w := by omega
          exact absurd (by rw [e1]; exact Nat.dvd_refl w) q
      refine lpow_use hM hpos hb fun v hv hvl => ?_
      refine ⟨mul_nat (by omega) (by omega), n0, shaped_int _, shaped_int _, ?_⟩
      rw [mul_pow_mod hv, ← eTM, ← st_mod hx, eqv_int, decide_eq_true rfl]
      rw [← eTM] at hP
      simp only [startS, List.length_cons, List.length_nil, List.map_cons, List.map_nil, List.getElem?_cons_zero, List.getElem?_cons_succ, List.set_cons_zero, List.set_cons_succ, List.cons_append, List.nil_append, List.append_nil, List.replicate_succ, List.replicate_zero, Nat.reduceAdd, Nat.reduceSub, ↓reduceIte, Bool.false_eq_true, reduceCtorEq, true_and, and_true, true_or, or_true, false_or, or_false, Bool.not_true, Bool.not_false, Bool.true_and, Bool.false_and, Bool.and_true, decide_eq_true_eq, Bool.not_eq_eq_eq_not, exists_eq_left, exists_eq_left', Option.some.injEq]
      exact hP
  refine cut11 _ ?_
  have cut12 : ∀ P : En, P.nx [.un, .rng a c, .im (.tuple [.int (x : Int), .int ((w - x : Nat) : Int)]), .im (.int (w : Int)), .im (.int (M : Int)), .im (eT w (st w x t')), .im (.int (t' : Int)), .im (eO e), .im (eT w (st w x T)), .un] → w_law_12 [.un, .rng a c, .im (.tuple [.int (x : Int), .int ((w - x : Nat) : Int)]), .im (.int (w : Int)), .im (.int (M : Int)), .im (eT w (st w x t')), .im (.int (t' : Int)), .im (eO e), .im (eT w (st w x T)), .un] P := fun P hP => by
    cases e with
    | none =>
      simp only [w_law_12, eO, bl?, g2, gAdd, gDiv, gEq, gGe, gGt, gI, gIn, gInt, gIs, gIsNot, gLe, gLen, gList, gLt, gMM, gMod, gMul, gMulS, gNe, gNotIn, gPow, gSorted, gSub, gIadd, gSum, gTuple, puts, sV, sVs, slotM, wAnd, wApp, wAsg, wAug, wAugI, wB, wC, wCall, wCallR, wChain, wCons, wDraw, wDrop, wEnL, wEnT, wExt, wFn, wFnO, wFor, wGCons, wGNil, wGT, wIL, wIT, wIdx, wIf, wIfS, wIsi, wIx, wLc, wLst, wMNil, wMO, wMV, wMix, wN, wNeg, wNil, wNot, wNotT, wO, wOp, wOr, wOwn, wPar, wR1, wR2, wRaise, wRaiseF, wRet, wSeq, wSet, wSetI, wSkip, wTAnd, wTNot, wTOr, wTru, wTry, wTryF, wTup, wV, wYes, startS, List.length_cons, List.length_nil, List.map_cons, List.map_nil, List.getElem?_cons_zero, List.getElem?_cons_succ, List.set_cons_zero, List.set_cons_succ, List.cons_append, List.nil_append, List.append_nil, List.replicate_succ, List.replicate_zero, Nat.reduceAdd, Nat.reduceSub, ↓reduceIte, Bool.false_eq_true, reduceCtorEq, true_and, and_true, true_or, or_true, false_or, or_false, Bool.not_true, Bool.not_false, Bool.true_and, Bool.false_and, Bool.and_true, decide_eq_true_eq, Bool.not_eq_eq_eq_not, exists_eq_left, exists_eq_left', Option.some.injEq]
      exact hP
    | some k =>
      have hk := end_110 o he
      have hmn : (if (k : Int) < M then (k : Int) else M) = ((min M k : Nat) : Int) := by split <;> omega
      simp only [w_law_12, eO, bl?, g2, gAdd, gDiv, gEq, gGe, gGt, gI, gIn, gInt, gIs, gIsNot, gLe, gLen, gList, gLt, gMM, gMod, gMul, gMulS, gNe, gNotIn, gPow, gSorted, gSub, gIadd, gSum, gTuple, puts, sV, sVs, slotM, wAnd, wApp, wAsg, wAug, wAugI, wB, wC, wCall, wCallR, wChain, wCons, wDraw, wDrop, wEnL, wEnT, wExt, wFn, wFnO, wFor, wGCons, wGNil, wGT, wIL, wIT, wIdx, wIf, wIfS, wIsi, wIx, wLc, wLst, wMNil, wMO, wMV, wMix, wN, wNeg, wNil, wNot, wNotT, wO, wOp, wOr, wOwn, wPar, wR1, wR2, wRaise, wRaiseF, wRet, wSeq, wSet, wSetI, wSkip, wTAnd, wTNot, wTOr, wTru, wTry, wTryF, wTup, wV, wYes, startS, List.length_cons, List.length_nil, List.map_cons, List.map_nil, List.getElem?_cons_zero, List.getElem?_cons_succ, List.set_cons_zero, List.set_cons_succ, List.cons_append, List.nil_append, List.append_nil, List.replicate_succ, List.replicate_zero, Nat.reduceAdd, Nat.reduceSub, ↓reduceIte, Bool.false_eq_true, reduceCtorEq, true_and, and_true, true_or, or_true, false_or, or_false, Bool.not_true, Bool.not_false, Bool.true_and, Bool.false_and, Bool.and_true, decide_eq_true_eq, Bool.not_eq_eq_eq_not, exists_eq_left, exists_eq_left', Option.some.injEq, hmn]
      refine ⟨w, x, min M k, rfl, o, by omega, fun t h => ?_⟩
      have eTt : T = t := by
        refine StopAt.uniq hT ⟨by have := h.le; omega, h.no, ?_⟩
        rcases h.at_ with q | q
        · by_cases ck : k ≤ M
          · right
            have e1 : t = k := by omega
            rw [e1]
            exact he.1
          · left
            omega
        · exact .inr q
      subst eTt
      simp only [startS, List.length_cons, List.length_nil, List.map_cons, List.map_nil, List.getElem?_cons_zero, List.getElem?_cons_succ, List.set_cons_zero, List.set_cons_succ, List.cons_append, List.nil_append, List.append_nil, List.replicate_succ, List.replicate_zero, Nat.reduceAdd, Nat.reduceSub, ↓reduceIte, Bool.false_eq_true, reduceCtorEq, true_and, and_true, true_or, or_true, false_or, or_false, Bool.not_true, Bool.not_false, Bool.true_and, Bool.false_and, Bool.and_true, decide_eq_true_eq, Bool.not_eq_eq_eq_not, exists_eq_left, exists_eq_left', Option.some.injEq, at_0, shT, rfT]
      exact hP
  refine cut12 _ ?_
  simp only [w_law_13, bl?, g2, gAdd, gDiv, gEq, gGe, gGt, gI, gIn, gInt, gIs, gIsNot, gLe, gLen, gList, gLt, gMM, gMod, gMul, gMulS, gNe, gNotIn, gPow, gSorted, gSub, gIadd, gSum, gTuple, puts, sV, sVs, slotM, wAnd, wApp, wAsg, wAug, wAugI, wB, wC, wCall, wCallR, wChain, wCons, wDraw, wDrop, wEnL, wEnT, wExt, wFn, wFnO, wFor, wGCons, wGNil, wGT, wIL, wIT, wIdx, wIf, wIfS, wIsi, wIx, wLc, wLst, wMNil, wMO, wMV, wMix, wN, wNeg, wNil, wNot, wNotT, wO, wOp, wOr, wOwn, wPar, wR1, wR2, wRaise, wRaiseF, wRet, wSeq, wSet, wSetI, wSkip, wTAnd, wTNot, wTOr, wTru, wTry, wTryF, wTup, wV, wYes, startS, List.length_cons, List.length_nil, List.map_cons, List.map_nil, List.getElem?_cons_zero, List.getElem?_cons_succ, List.set_cons_zero, List.set_cons_succ, List.cons_append, List.nil_append, List.append_nil, List.replicate_succ, List.replicate_zero, Nat.reduceAdd, Nat.reduceSub, ↓reduceIte, Bool.false_eq_true, reduceCtorEq, true_and, and_true, true_or, or_true, false_or, or_false, Bool.not_true, Bool.not_false, Bool.true_and, Bool.false_and, Bool.and_true, decide_eq_true_eq, Bool.not_eq_eq_eq_not, exists_eq_left, exists_eq_left', Option.some.injEq]
  refine ⟨w, x, rfl, o, fun hw => ?_, fun hw => ⟨fun k hk => ?_, fun f r hr => ?_⟩⟩
  all_goals have p6 : CPow 10 6 := ⟨by decide, by decide, by decide⟩
  all_goals have e6 : (10 : Int) ^ (6 : Int).toNat = 1000000 := by decide
  · have c : (1000000 : Int) < w := by omega
    simp only [startS, List.length_cons, List.length_nil, List.map_cons, List.map_nil, List.getElem?_cons_zero, List.getElem?_cons_succ, List.set_cons_zero, List.set_cons_succ, List.cons_append, List.nil_append, List.append_nil, List.replicate_succ, List.replicate_zero, Nat.reduceAdd, Nat.reduceSub, ↓reduceIte, Bool.false_eq_true, reduceCtorEq, true_and, and_true, true_or, or_true, false_or, or_false, Bool.not_true, Bool.not_false, Bool.true_and, Bool.false_and, Bool.and_true, decide_eq_true_eq, Bool.not_eq_eq_eq_not, exists_eq_left, exists_eq_left', Option.some.injEq, flat_int, flat, w_law_14, bl?, g2, gAdd, gDiv, gEq, gGe, gGt, gI, gIn, gInt, gIs, gIsNot, gLe, gLen, gList, gLt, gMM, gMod, gMul, gMulS, gNe, gNotIn, gPow, gSorted, gSub, gIadd, gSum, gTuple, puts, sV, sVs, slotM, wAnd, wApp, wAsg, wAug, wAugI, wB, wC, wCall, wCallR, wChain, wCons, wDraw, wDrop, wEnL, wEnT, wExt, wFn, wFnO, wFor, wGCons, wGNil, wGT, wIL, wIT, wIdx, wIf, wIfS, wIsi, wIx, wLc, wLst, wMNil, wMO, wMV, wMix, wN, wNeg, wNil, wNot, wNotT, wO, wOp, wOr, wOwn, wPar, wR1, wR2, wRaise, wRaiseF, wRet, wSeq, wSet, wSetI, wSkip, wTAnd, wTNot, wTOr, wTru, wTry, wTryF, wTup, wV, wYes, e6, c, decide_true]
    exact p6
  · have c : ¬ (1000000 : Int) < w := by omega
    have k110 := end_110 o hk
    have sh : SeqAt.shaped (.tuple [.int (k : Int), .int 0]) = true := shaped_eH [(k : Int), 0]
    have eq : PyData.eqv (.tuple [.int (k : Int), .int 0]) (.tuple [.int (k : Int), .int 0]) = true := by
      have q := eqv_eH [(k : Int), 0] [(k : Int), 0]
      rw [decide_eq_true rfl] at q
      exact q
    have l300 : ¬ (300 : Int) < 0 := by decide
    simp only [startS, List.length_cons, List.length_nil, List.map_cons, List.map_nil, List.getElem?_cons_zero, List.getElem?_cons_succ, List.set_cons_zero, List.set_cons_succ, List.cons_append, List.nil_append, List.append_nil, List.replicate_succ, List.replicate_zero, Nat.reduceAdd, Nat.reduceSub, ↓reduceIte, Bool.false_eq_true, reduceCtorEq, true_and, and_true, true_or, or_true, false_or, or_false, Bool.not_true, Bool.not_false, Bool.true_and, Bool.false_and, Bool.and_true, decide_eq_true_eq, Bool.not_eq_eq_eq_not, exists_eq_left, exists_eq_left', Option.some.injEq, flat, flats, Bool.and_self, w_law_14, w_law_15, w_law_16, bl?, g2, gAdd, gDiv, gEq, gGe, gGt, gI, gIn, gInt, gIs, gIsNot, gLe, gLen, gList, gLt, gMM, gMod, gMul, gMulS, gNe, gNotIn, gPow, gSorted, gSub, gIadd, gSum, gTuple, puts, sV, sVs, slotM, wAnd, wApp, wAsg, wAug, wAugI, wB, wC, wCall, wCallR, wChain, wCons, wDraw, wDrop, wEnL, wEnT, wExt, wFn, wFnO, wFor, wGCons, wGNil, wGT, wIL, wIT, wIdx, wIf, wIfS, wIsi, wIx, wLc, wLst, wMNil, wMO, wMV, wMix, wN, wNeg, wNil, wNot, wNotT, wO, wOp, wOr, wOwn, wPar, wR1, wR2, wRaise, wRaiseF, wRet, wSeq, wSet, wSetI, wSkip, wTAnd, wTNot, wTOr, wTru, wTry, wTryF, wTup, wV, wYes, e6, c, decide_false, at_1, at_0, sh, l300]
    refine ⟨p6, ?_⟩
    have q : sp_law_ring [eT w x] (fun d => SeqAt.shaped d = true ∧ PyData.bool ((PyData.tuple [.int (k : Int), .int 0]).eqv d) = .bool true) (fun _ => False) :=
      ⟨w, x, rfl, o, .inl ⟨k, hk, by omega, sh, by rw [eq]⟩⟩
    by_cases c3 : (300 : Int) < w
    · rw [if_pos c3]; exact q
    · rw [if_neg c3]; exact q
  · have c : ¬ (1000000 : Int) < w := by omega
    obtain ⟨b1, b2⟩ := ring_small o hr
    have bf := two_lt b1
    have sh : SeqAt.shaped (.tuple [.int (f : Int), .int (r : Int)]) = true := shaped_eH [(f : Int), (r : Int)]
    have eq : PyData.eqv (.tuple [.int (f : Int), .int (r : Int)]) (.tuple [.int (f : Int), .int (r : Int)]) = true := by
      have q := eqv_eH [(f : Int), (r : Int)] [(f : Int), (r : Int)]
      rw [decide_eq_true rfl] at q
      exact q
    simp only [startS, List.length_cons, List.length_nil, List.map_cons, List.map_nil, List.getElem?_cons_zero, List.getElem?_cons_succ, List.set_cons_zero, List.set_cons_succ, List.cons_append, List.nil_append, List.append_nil, List.replicate_succ, List.replicate_zero, Nat.reduceAdd, Nat.reduceSub, ↓reduceIte, Bool.false_eq_true, reduceCtorEq, true_and, and_true, true_or, or_true, false_or, or_false, Bool.not_true, Bool.not_false, Bool.true_and, Bool.false_and, Bool.and_true, decide_eq_true_eq, Bool.not_eq_eq_eq_not, exists_eq_left, exists_eq_left', Option.some.injEq, flat, flats, Bool.and_self, w_law_14, w_law_15, w_law_16, bl?, g2, gAdd, gDiv, gEq, gGe, gGt, gI, gIn, gInt, gIs, gIsNot, gLe, gLen, gList, gLt, gMM, gMod, gMul, gMulS, gNe, gNotIn, gPow, gSorted, gSub, gIadd, gSum, gTuple, puts, sV, sVs, slotM, wAnd, wApp, wAsg, wAug, wAugI, wB, wC, wCall, wCallR, wChain, wCons, wDraw, wDrop, wEnL, wEnT, wExt, wFn, wFnO, wFor, wGCons, wGNil, wGT, wIL, wIT, wIdx, wIf, wIfS, wIsi, wIx, wLc, wLst, wMNil, wMO, wMV, wMix, wN, wNeg, wNil, wNot, wNotT, wO, wOp, wOr, wOwn, wPar, wR1, wR2, wRaise, wRaiseF, wRet, wSeq, wSet, wSetI, wSkip, wTAnd, wTNot, wTOr, wTru, wTry, wTryF, wTup, wV, wYes, e6, c, decide_false, at_1, at_0, sh]
    refine ⟨p6, ?_⟩
    have f20 : f < 20 := by
      rcases Nat.lt_or_ge f 20 with k | k
      · exact k
      · have q : 2 ^ 20 ≤ 2 ^ f := Nat.pow_le_pow_right (by decide) k
        have e20 : (2 : Nat) ^ 20 = 1048576 := by decide
        omega
    have ringOk : r ≤ 300 → sp_law_ring [eT w x] (fun d => SeqAt.shaped d = true ∧ PyData.bool ((PyData.tuple [.int (f : Int), .int (r : Int)]).eqv d) = .bool true) (fun _ => False) := fun hr3 =>
      ⟨w, x, rfl, o, .inr ⟨f, r, hr, by omega, sh, by rw [eq]⟩⟩
    by_cases c3 : (300 : Int) < w
    · rw [if_pos c3]
      by_cases c4 : (300 : Int) < r
      · rw [if_pos c4]
        exact ⟨w, x, f, r, rfl, o, hr, by omega, by omega, rfl⟩
      · rw [if_neg c4]
        exact ringOk (by omega)
    · rw [if_neg c3]
      exact ringOk (by omega)
end Pu


namespace Pu
open PySem L2
def top (i : Nat) : Stmt := PySem.Challenge.pw_heapsdouble_k03_whole_walks_of_two.main.body.getD i (.Pass ⟨0, 0, 0, 0⟩)
def inC (st : Stmt) (i : Nat) : Stmt := match st with
  | .ClassDef _ _ _ b _ _ _ _ _ _ _ => b.getD i (.Pass ⟨0, 0, 0, 0⟩)
  | st => st
structure Txt (K : PySem.W.Frag) (mg : Str → Option Value) : Prop where
  f_law_power : ∃ (f : Addr) (fd : FuncData), Fun K "_law_power" "_law_power" (top 31) f fd ∧ mg "_law_power" = some (.ref f)
  f_law_is_least : ∃ (f : Addr) (fd : FuncData), Fun K "_law_is_least" "_law_is_least" (top 33) f fd ∧ mg "_law_is_least" = some (.ref f)
  f_law_heaps : ∃ (f : Addr) (fd : FuncData), Fun K "_law_heaps" "_law_heaps" (top 24) f fd ∧ mg "_law_heaps" = some (.ref f)
  f_law_pair : ∃ (f : Addr) (fd : FuncData), Fun K "_law_pair" "_law_pair" (top 28) f fd ∧ mg "_law_pair" = some (.ref f)
  f_law_behind : ∃ (f : Addr) (fd : FuncData), Fun K "_law_behind" "_law_behind" (top 26) f fd ∧ mg "_law_behind" = some (.ref f)
  f_law_next_pair : ∃ (f : Addr) (fd : FuncData), Fun K "_law_next_pair" "_law_next_pair" (top 29) f fd ∧ mg "_law_next_pair" = some (.ref f)
  f_law_ring : ∃ (f : Addr) (fd : FuncData), Fun K "_law_ring" "_law_ring" (top 32) f fd ∧ mg "_law_ring" = some (.ref f)
  f_is_integer : ∃ (f : Addr) (fd : FuncData), Fun K "is_integer" "is_integer" (top 9) f fd ∧ mg "is_integer" = some (.ref f)
  f_is_from : ∃ (f : Addr) (fd : FuncData), Fun K "is_from" "is_from" (top 10) f fd ∧ mg "is_from" = some (.ref f)
  f_check_heaps : ∃ (f : Addr) (fd : FuncData), Fun K "check_heaps" "check_heaps" (top 11) f fd ∧ mg "check_heaps" = some (.ref f)
  f_check_two : ∃ (f : Addr) (fd : FuncData), Fun K "check_two" "check_two" (top 14) f fd ∧ mg "check_two" = some (.ref f)
  f_common : ∃ (f : Addr) (fd : FuncData), Fun K "common" "common" (top 15) f fd ∧ mg "common" = some (.ref f)
  f_end_of : ∃ (f : Addr) (fd : FuncData), Fun K "end_of" "end_of" (top 17) f fd ∧ mg "end_of" = some (.ref f)
  f_tail_and_ring : ∃ (f : Addr) (fd : FuncData), Fun K "tail_and_ring" "tail_and_ring" (top 20) f fd ∧ mg "tail_and_ring" = some (.ref f)
  f_law_told : ∃ (f : Addr) (fd : FuncData), Fun K "_law_told" "_law_told" (top 34) f fd ∧ mg "_law_told" = some (.ref f)
  f_law_walk : ∃ (f : Addr) (fd : FuncData), Fun K "_law_walk" "_law_walk" (top 30) f fd ∧ mg "_law_walk" = some (.ref f)
  f_power : ∃ (f : Addr) (fd : FuncData), Fun K "power" "power" (top 16) f fd ∧ mg "power" = some (.ref f)
  f_after : ∃ (f : Addr) (fd : FuncData), Fun K "after" "after" (top 18) f fd ∧ mg "after" = some (.ref f)
  f_ends_after : ∃ (f : Addr) (fd : FuncData), Fun K "ends_after" "ends_after" (top 19) f fd ∧ mg "ends_after" = some (.ref f)
  f_law : ∃ (f : Addr) (fd : FuncData), Fun K "law" "law" (top 35) f fd ∧ mg "law" = some (.ref f)
  f_law_mix : ∃ (f : Addr) (fd : FuncData), Fun K "_law_mix" "_law_mix" (top 22) f fd ∧ mg "_law_mix" = some (.ref f)
  f_law_next : ∃ (f : Addr) (fd : FuncData), Fun K "_law_next" "_law_next" (top 23) f fd ∧ mg "_law_next" = some (.ref f)
  b_bool : mg "bool" = none
  b_int : mg "int" = none
  b_isinstance : mg "isinstance" = none
  b_len : mg "len" = none
  b_list : mg "list" = none
  b_max : mg "max" = none
  b_min : mg "min" = none
  b_range : mg "range" = none
  b_sum : mg "sum" = none
  b_tuple : mg "tuple" = none
  c_LEAST_HEAPS : ∃ t, mg "LEAST_HEAPS" = some (.int 2 t)
  c_MOST_HEAPS : ∃ t, mg "MOST_HEAPS" = some (.int 6 t)
  c_MOST_IN_HEAP : ∃ t, mg "MOST_IN_HEAP" = some (.int 1000000000000000000000000000000 t)
  c_MOST_SUM : ∃ t, mg "MOST_SUM" = some (.int 1000000 t)
  r_BadHeaps : RaiseC K mg "BadHeaps"
  r_BadMany : RaiseC K mg "BadMany"
  r_TooGreat : RaiseC K mg "TooGreat"
  x_TooGreat : ∃ C, mg "TooGreat" = some (.ref C) ∧ Catch K mg C m_TooGreat ∧ XfC K C ∧ True
section
variable {P : Program} {w : World} {K : PySem.W.Frag} {mg : Str → Option Value} {base : Heap}
theorem sc_next : FnScope ["_law_h", "_law_bound", "_law_cell", "_law_cells"] ["_law_h", "_law_bound"] (defScope (top 23)) := ⟨rfl, rfl, rfl, by decide +kernel, rfl, by decide +kernel, by decide +kernel⟩
theorem ok_next {f : Addr} {fd : FuncData} {k : Nat} (T : Txt K mg) (F : Fun K "_law_next" "_law_next" (top 23) f fd) : FnOk P w K mg base (L2.CX P w) (k + 1) f fd ["_law_h", "_law_bound"] spNext := by
  refine F.okX sc_next (fun vs H Q E h => by obtain ⟨a, c, n, rfl, _⟩ := h; rfl) (fun cdv A outer s H vs Q E hr h => ?_)
  obtain ⟨a, c, n, rfl, hac, ⟨st, ix, ns, h1, h2, h3⟩, n1, n2, q⟩ := h
  have nd := sc_next.nd
  have e31 : (10 : Int) ^ 31 = 10000000000000000000000000000000 := by decide
  have e110 : (2 : Nat) ^ 110 = 1298074214633706907132624082305024 := by decide
  have hn : n.natAbs < 2 ^ 110 := by rw [e110]; rw [e31] at n2; omega
  refine ⟨_, pss_cons (ps_set (i := 2) nd rfl (.inl rfl) (pe_ix ix_seq (pe_op op_cat (pe_ix ix_seq (pe_var (i := 0) rfl (.inl rfl)) pe_int (fun _ _ => rfl)) (pe_lst (pa_cons pe_int pa_nil)))
      (pe_op op_modN (pe_callTy call_int1 rfl T.b_int bt_int (pa_cons (pe_ix ix_seq (pe_var (i := 0) rfl (.inl rfl)) pe_int (fun _ _ => rfl)) pa_nil)) (pe_callB (call_max2 rfl) rfl T.b_max bb_max (pa_cons pe_int (pa_cons (pe_callB call_len rfl T.b_len bb_len (pa_cons (pe_ix ix_seq (pe_var (i := 0) rfl (.inl rfl)) pe_int (fun _ _ => rfl)) pa_nil)) pa_nil)))) (fun _ _ => rfl)))
    (pss_cons (ps_if (pt_cmpR op_ge (pe_var (i := 2) rfl (.inl rfl)) (pe_op op_pow pe_int pe_int) (by first | exact nobehind _ (by decide) (by decide) | rfl))
      (pss_cons (ps_set (i := 3) nd rfl (.inl rfl) (pe_ix ix_seq (pe_var (i := 0) rfl (.inl rfl)) pe_int (fun _ _ => rfl)))
        (pss_cons (ps_asg (pe_op op_fdivW (pe_var (i := 2) rfl (.inl rfl)) (pe_var (i := 1) rfl (.inl rfl))) (pg_sub (pe_var (i := 3) rfl (.inl rfl)) (pe_op op_modN (pe_callTy call_int1 rfl T.b_int bt_int (pa_cons (pe_ix ix_seq (pe_var (i := 0) rfl (.inl rfl)) pe_int (fun _ _ => rfl)) pa_nil)) (pe_callB call_len rfl T.b_len bb_len (pa_cons (pe_var (i := 3) rfl (.inl rfl)) pa_nil))) set_list (by intro _; rfl)) rfl rfl rfl)
          (pss_one (ps_ret (pe_op op_modN (pe_callTy call_int1 rfl T.b_int bt_int (pa_cons (pe_var (i := 2) rfl (.inl rfl)) pa_nil)) (pe_var (i := 1) rfl (.inl rfl)))))))
      pss_nil)
    (pss_cons (ps_asg (pe_op op_modN (pe_callTy call_int1 rfl T.b_int bt_int (pa_cons (pe_op op_add (pe_op op_add (pe_op op_mul (pe_ix ix_seq (pe_var (i := 0) rfl (.inl rfl)) pe_int (fun _ _ => rfl)) pe_int) (pe_op op_mul (pe_var (i := 2) rfl (.inl rfl)) pe_int)) pe_int) pa_nil)) pe_int) (pg_sub (pe_var (i := 0) rfl (.inl rfl)) pe_int set_list (by intro _; rfl)) rfl rfl rfl)
      (pss_cons (ps_asg (pe_op op_add (pe_ix ix_seq (pe_var (i := 0) rfl (.inl rfl)) pe_int (fun _ _ => rfl)) pe_int) (pg_sub (pe_var (i := 0) rfl (.inl rfl)) pe_int set_list (by intro _; rfl)) rfl rfl rfl)
        (pss_one (ps_ret (pe_op op_modN (pe_callTy call_int1 rfl T.b_int bt_int (pa_cons (pe_op op_fdiv (pe_ix ix_seq (pe_var (i := 0) rfl (.inl rfl)) pe_int (fun _ _ => rfl)) pe_int) pa_nil)) (pe_var (i := 1) rfl (.inl rfl)))))))), ?_⟩
  refine ⟨.ref a, rfl, .inl ⟨a, _, 1, .ref c, rfl, rfl, SqL.at h1, rfl, ?_⟩⟩
  refine ⟨by decide, fun p hp => ⟨c, p, ns.map .int, [.int 0], rfl, rfl, ?_, upd_same, ?_, fun p2 hp2 => ?_⟩⟩
  · rw [upd_ne (ne_of_none h2 hp)]; exact h2
  · rw [List.length_map, sizeLine_eq]; simp; omega
  have k1 : But a c H (upd (upd H p (.lst [.int 0])) p2 (.lst (ns.map .int ++ [.int 0]))) := fun b u _ _ e => by
    have e1 : upd H p (.lst [.int 0]) b = some u := by rw [upd_ne (ne_of_none e hp)]; exact e
    rw [upd_ne (ne_of_none e1 hp2)]; exact e1
  have ga : upd (upd H p (.lst [.int 0])) p2 (.lst (ns.map .int ++ [.int 0])) a = some (.lst [.int st, .ref c, .int ix]) := by
    have e1 : upd H p (.lst [.int 0]) a = _ := (upd_ne (ne_of_none h1 hp)).trans h1
    rw [upd_ne (ne_of_none e1 hp2)]; exact e1
  have gc : upd (upd H p (.lst [.int 0])) p2 (.lst (ns.map .int ++ [.int 0])) c = some (.lst (ns.map .int)) := by
    have e1 : upd H p (.lst [.int 0]) c = _ := (upd_ne (ne_of_none h2 hp)).trans h2
    rw [upd_ne (ne_of_none e1 hp2)]; exact e1
  have gp : upd (upd H p (.lst [.int 0])) p2 (.lst (ns.map .int ++ [.int 0])) p2 = some (.lst ((ns ++ [0]).map .int)) := by
    rw [upd_same, List.map_append]; rfl
  generalize upd (upd H p (.lst [.int 0])) p2 (.lst (ns.map .int ++ [.int 0])) = G at k1 ga gc gp
  refine ⟨.ref a, rfl, .inl ⟨a, _, 2, .int ix, rfl, rfl, SqL.at ga, rfl, .inl ⟨ix, rfl, ?_⟩⟩⟩
  refine ⟨.ref a, rfl, .inl ⟨a, _, 1, .ref c, rfl, rfl, SqL.at ga, rfl, ?_⟩⟩
  refine ⟨_, (ns.map V.int).length, rfl, .inl ⟨_, SqL.at gc, rfl⟩, 1, _, rfl, ?_⟩
  have hM : (1 : Int) ≤ (if ((ns.map V.int).length : Int) > 1 then ((ns.map V.int).length : Int) else 1) := by split <;> omega
  have hM2 : (if ((ns.map V.int).length : Int) > 1 then ((ns.map V.int).length : Int) else 1) ≤ ((ns ++ [0]).length : Int) := by
    rw [List.length_append, List.length_map]; simp only [List.length_cons, List.length_nil]; split <;> omega
  generalize (if ((ns.map V.int).length : Int) > 1 then ((ns.map V.int).length : Int) else 1) = M at hM hM2
  refine ⟨ix, M, rfl, rfl, by omega, ?_⟩
  obtain ⟨f1, f2⟩ := fmod_in (i := ix) hM
  obtain ⟨cell, ec, mc⟩ := at_ints (l := ns ++ [0]) f1 (by omega)
  refine .inl ⟨p2, _, _, .int cell, rfl, rfl, SqL.at gp, ec, ?_⟩
  refine ⟨_, rfl, 10, 18, rfl, rfl, ⟨by decide, by decide, by decide⟩, cell, _, rfl, rfl, ?_⟩
  have h18 : ((10 : Int) ^ (18 : Int).toNat) = 1000000000000000000 := by decide
  refine ⟨_, rfl, ?_⟩
  by_cases hb : (10 : Int) ^ (18 : Int).toNat ≤ cell
  · refine Eq.mpr (if_pos (decide_eq_true hb)) ?_
    rw [h18] at hb
    have hz : cell ≠ 0 := by omega
    have mc' : cell ∈ ns := by
      rcases List.mem_append.mp mc with z | z
      · exact z
      · exact absurd (List.mem_singleton.mp z) hz
    have hl : 0 < ns.length := List.length_pos_of_mem mc'
    refine ⟨.ref a, rfl, .inl ⟨a, _, 1, .ref c, rfl, rfl, SqL.at ga, rfl, ?_⟩⟩
    refine ⟨_, rfl, _, rfl, cell, n, rfl, rfl, wide_div (b := 110) (by omega) hn (by decide) (by decide), ?_⟩
    refine ⟨.ref c, rfl, .ref a, rfl, .inl ⟨a, _, 2, .int ix, rfl, rfl, SqL.at ga, rfl, .inl ⟨ix, rfl, ?_⟩⟩⟩
    refine ⟨.ref c, rfl, _, (ns.map V.int).length, rfl, .inl ⟨_, SqL.at gc, rfl⟩, ix, _, rfl, rfl, ?_, ?_⟩
    · rw [List.length_map]; omega
    obtain ⟨g1, g2⟩ := fmod_in (i := ix) (j := ((ns.map V.int).length : Int)) (by rw [List.length_map]; omega)
    obtain ⟨j, ej⟩ := Int.eq_ofNat_of_zero_le g1
    have hj : j < (ns.map V.int).length := by omega
    refine ⟨c, ns.map V.int, _, j, rfl, rfl, gc, by rw [ej]; exact ixN_nat hj, ?_⟩
    refine ⟨_, rfl, .inl ⟨cell, rfl, _, rfl, cell, n, rfl, rfl, by omega, ?_⟩⟩
    obtain ⟨r1, r2⟩ := fmod_in (i := cell) n1
    refine q _ _ r1 r2 (fun b u b1 b2 e => ?_) ⟨st, ix, ns.set j (cell / n), ?_, ?_, by rw [List.length_set]; exact h3⟩
    · rw [upd_ne b2]; exact k1 b u b1 b2 e
    · rw [upd_ne hac]; exact ga
    · rw [upd_same, List.map_set]
  · refine Eq.mpr (if_neg (by rw [decide_eq_false hb]; exact Bool.false_ne_true)) ?_
    refine ⟨.ref a, rfl, .inl ⟨a, _, 0, .int st, rfl, rfl, SqL.at ga, rfl, st, 48271, rfl, rfl, .inr ⟨by decide, by decide⟩, ?_⟩⟩
    refine ⟨_, rfl, cell, 69621, rfl, rfl, .inr ⟨by decide, by decide⟩, _, _, rfl, rfl, _, _, rfl, rfl, .inl ⟨_, rfl, _, _, rfl, rfl, show (2147483647 : Int) ≠ 0 by decide, ?_⟩⟩
    refine ⟨.ref a, rfl, a, _, 0, 0, rfl, rfl, ga, rfl, ?_⟩
    refine ⟨.ref a, rfl, .inl ⟨a, _, 2, .int ix, rfl, rfl, SqL.at upd_same, rfl, ix, 1, rfl, rfl, ?_⟩⟩
    refine ⟨.ref a, rfl, a, _, 2, 2, rfl, rfl, upd_same, rfl, ?_⟩
    refine ⟨.ref a, rfl, .inl ⟨a, _, 0, _, rfl, rfl, SqL.at upd_same, rfl, _, 7, rfl, rfl, ⟨by decide, by decide⟩, .inl ⟨_, rfl, _, rfl, _, n, rfl, rfl, by omega, ?_⟩⟩⟩
    obtain ⟨r1, r2⟩ := fmod_in (i := ((st * 48271 + cell * 69621 + 11).fmod 2147483647) / 7) n1
    refine q _ _ r1 r2 (fun b u b1 b2 e => ?_) ⟨_, _, ns, upd_same, ?_, h3⟩
    · rw [upd_ne b1, upd_ne b1]; exact k1 b u b1 b2 e
    · rw [upd_ne (Ne.symm hac), upd_ne (Ne.symm hac)]; exact gc
theorem sc_mix : FnScope ["_law_script", "_law_seed", "_law_state", "_law_cell"] ["_law_script", "_law_seed"] (defScope (top 22)) := ⟨rfl, rfl, rfl, by decide +kernel, rfl, by decide +kernel, by decide +kernel⟩
theorem ok_mix {f : Addr} {fd : FuncData} {k : Nat} (T : Txt K mg) (F : Fun K "_law_mix" "_law_mix" (top 22) f fd) : FnOk P w K mg base (L2.CX P w) (k + 1) f fd ["_law_script", "_law_seed"] (spMix K) := by
  refine F.okX sc_mix (fun vs H Q E h => by obtain ⟨a, ns, seed, rfl, _⟩ := h; rfl) (fun cdv A outer s H vs Q E hr h => ?_)
  obtain ⟨a, ns, seed, rfl, h1, h2, q⟩ := h
  have nd := sc_mix.nd
  refine ⟨_, pss_cons (ps_set (i := 2) nd rfl (.inl rfl) (pe_var (i := 1) rfl (.inl rfl)))
    (pss_cons (ps_for (passes_of rfl) rfl (pi_list (pe_var (i := 0) rfl (.inl rfl))) (pg_name (i := 3) nd rfl (.inl rfl) (.inl rfl))
      (pss_one (ps_set (i := 2) nd rfl (.inl rfl) (pe_op op_modN (pe_callTy call_int1 rfl T.b_int bt_int (pa_cons (pe_op op_add (pe_op op_add (pe_op op_mul (pe_var (i := 2) rfl (.inl rfl)) pe_int) (pe_op op_modN (pe_callTy call_int1 rfl T.b_int bt_int (pa_cons (pe_var (i := 3) rfl (.inl rfl)) pa_nil)) pe_int)) pe_int) pa_nil)) pe_int))) (by intro _; rfl))
    (pss_one (ps_ret (pe_lst (pa_cons (pe_var (i := 2) rfl (.inl rfl)) (pa_cons (pe_callTy call_list_of rfl T.b_list bt_list (pa_cons (pe_var (i := 0) rfl (.inl rfl)) pa_nil)) (pa_cons pe_int pa_nil))))))), ?_⟩
  refine ⟨.int seed, rfl, .ref a, rfl, a, rfl, ⟨_, h1⟩, ?_⟩
  refine ⟨fun i m σ H' => m = ns.length - i ∧ i ≤ ns.length ∧ H' = H ∧ ∃ (z : Int) (u : Option V), σ = [some (.ref a), some (.int seed), some (.int z), u], ⟨ns.length, by simp, Nat.zero_le _, rfl, seed, none, rfl⟩, ?_⟩
  rintro i m σ' H' ⟨rfl, hi, rfl, z, u, rfl⟩
  by_cases hlt : i < ns.length
  · right
    have hx : (ns.map V.int)[i]? = some (.int ns[i]) := by rw [List.getElem?_map, List.getElem?_eq_getElem hlt]; rfl
    refine ⟨⟨_, _, h1, hx⟩, fun σ' H2 => i + 1 ≤ ns.length ∧ H2 = H' ∧ ∃ (z : Int) (u : Option V), σ' = [some (.ref a), some (.int seed), some (.int z), u], fun σ2 H2 ⟨q1, q2, q3⟩ => ⟨ns.length - (i + 1), by omega, rfl, q1, q2, q3⟩, fun x H2 hy => ?_⟩
    obtain ⟨rfl, hy⟩ := hy
    have e := hy _ h1
    rw [hx] at e
    cases e
    refine ⟨.int z, rfl, z, 48271, rfl, rfl, .inr ⟨by decide, by decide⟩, _, rfl, .inl ⟨_, rfl, _, 2147483629, rfl, rfl, show (2147483629 : Int) ≠ 0 by decide, ?_⟩⟩
    refine ⟨_, _, rfl, rfl, _, _, rfl, rfl, .inl ⟨_, rfl, _, 2147483647, rfl, rfl, show (2147483647 : Int) ≠ 0 by decide, ?_⟩⟩
    exact ⟨hlt, rfl, _, _, rfl⟩
  · left
    refine ⟨⟨_, h1, by rw [List.length_map]; omega⟩, ?_⟩
    refine ⟨.int z, rfl, .ref a, rfl, a, _, rfl, .inl h1, fun c hc => ⟨show 3 ≤ sizeLine by decide, fun p hp => ?_⟩⟩
    have nec : p ≠ c := fun e => by rw [e, upd_same] at hp; cases hp
    have hp0 : H' p = none := by rw [upd_ne nec] at hp; exact hp
    refine q p c _ hp0 hc nec (fun b u e => ?_) ⟨z, 0, ns, upd_same, ?_, h2⟩
    · have b1 := ne_of_none e hc
      have b2 := ne_of_none e hp0
      rw [upd_ne b2, upd_ne b1]; exact e
    · rw [upd_ne (Ne.symm nec), upd_same]
theorem D_law_next (T : Txt K mg) : Def P w K mg base 1 "_law_next" 2 spNext := by
  obtain ⟨f, fd, F, hm⟩ := T.f_law_next
  exact ⟨f, fd, _, ok_next (k := 0) T F, hm, F.kp, F.binds (ps := ["_law_h", "_law_bound"]) fun _ _ _ _ _ _ us hl => match us, hl with | [_, _], _ => rfl, rfl⟩
theorem D_law_mix (T : Txt K mg) : Def P w K mg base 1 "_law_mix" 2 (spMix K) := by
  obtain ⟨f, fd, F, hm⟩ := T.f_law_mix
  exact ⟨f, fd, _, ok_mix (k := 0) T F, hm, F.kp, F.binds (ps := ["_law_script", "_law_seed"]) fun _ _ _ _ _ _ us hl => match us, hl with | [_, _], _ => rfl, rfl⟩
theorem sc_law_power : FnScope ["_law_many", "_law_whole", "_law_found", "_law_base"] ["_law_many", "_law_whole"] (defScope (top 31)) := ⟨rfl, rfl, rfl, by decide +kernel, rfl, by decide +kernel, by decide +kernel⟩
theorem ok_law_power (T : Txt K mg) {f : Addr} {fd : FuncData} (F : Fun K "_law_power" "_law_power" (top 31) f fd) : FnOk P w K mg base (L2.CX P w) 1 f fd ["_law_many", "_law_whole"] (spOf mg 2 sp_law_power) := by
  refine def_ok (k := 0) F sc_law_power fun cdv A outer s H E a => ⟨w_law_power, ?_, pure_law_power⟩
  exact (sss_cons (ss_mixT (is := [2, 3]) a (sm_v 2 se_int (sm_v 3 se_int sm_nil)) (pgs_cons (pg_name (i := 2) a.nd rfl (by first | exact Or.inl rfl | exact Or.inr rfl)) (pgs_cons (pg_name (i := 3) a.nd rfl (by first | exact Or.inl rfl | exact Or.inr rfl)) pgs_nil)))
    (sss_cons (ss_while a (st_cmp o_gt (se_v 0) se_int) (sss_cons (ss_if (st_cmp (o_ne a) (se_op o_mul (se_op o_div (se_v 0) se_int) se_int) (se_v 0)) (sss_one (ss_set 2 a (se_op o_mod (se_ft f_int T.b_int bt_int (sa_cons (se_op o_mul (se_v 2) (se_v 3)) sa_nil)) (se_v 1)))) sss_nil)
    (sss_one (ss_par 3 0 a (sa_cons (se_op o_mod (se_ft f_int T.b_int bt_int (sa_cons (se_op o_mul (se_v 3) (se_v 3)) sa_nil)) (se_v 1)) (sa_cons (se_op o_div (se_v 0) se_int) sa_nil))))))
    (sss_one (ss_ret (se_v 2)))))
theorem D_law_power (T : Txt K mg) : Def P w K mg base 1 "_law_power" 2 (spOf mg 2 sp_law_power) := by
  obtain ⟨f, fd, F, hm⟩ := T.f_law_power
  exact ⟨f, fd, _, ok_law_power T F, hm, F.kp, F.binds (ps := ["_law_many", "_law_whole"]) fun _ _ _ _ _ _ us hl => match us, hl with | [_, _], _ => rfl, rfl⟩
theorem sc_law_is_least : FnScope ["_law_heaps_here", "_law_tail", "_law_ring_here", "_law_whole", "_law_at", "_law_many", "_law_part", "_law_k", "_law_moved"] ["_law_heaps_here", "_law_tail", "_law_ring_here"] (defScope (top 33)) := ⟨rfl, rfl, rfl, by decide +kernel, rfl, by decide +kernel, by decide +kernel⟩
theorem ok_law_is_least (T : Txt K mg) {f : Addr} {fd : FuncData} (F : Fun K "_law_is_least" "_law_is_least" (top 33) f fd) : FnOk P w K mg base (L2.CX P w) 2 f fd ["_law_heaps_here", "_law_tail", "_law_ring_here"] (spOf mg 3 sp_law_is_least) := by
  refine def_ok (k := 1) F sc_law_is_least fun cdv A outer s H E a => ⟨w_law_is_least, ?_, pure_law_is_least⟩
  exact (sss_cons (ss_set 3 a (se_fb (f_sum a) T.b_sum bb_sum (sa_cons (se_v 0) sa_nil)))
    (sss_cons (ss_own 4 a (so_lst sa_nil))
    (sss_cons (ss_for a (si_l (se_o (so_lst (sa_cons (se_fb (f_max2 a) T.b_max bb_max (sa_cons se_int (sa_cons (se_op o_sub (se_v 1) se_int) sa_nil))) (sa_cons (se_v 1) sa_nil))))) (sg_n 5 a.nd) (sss_one (ss_app 4 (se_op o_mod (se_ft f_int T.b_int bt_int (sa_cons (se_op o_mul (se_ix (se_v 0) se_int) (se_call a (D_law_power T) (by decide) (sa_cons (se_v 5) (sa_cons (se_v 3) sa_nil)))) sa_nil)) (se_v 3)))))
    (sss_cons (ss_if (st_cmp (o_ne a) (se_op o_mod (se_ft f_int T.b_int bt_int (sa_cons (se_op o_mul (se_ix (se_v 4) se_int) (se_call a (D_law_power T) (by decide) (sa_cons (se_v 2) (sa_cons (se_v 3) sa_nil)))) sa_nil)) (se_v 3)) (se_ix (se_v 4) se_int)) (sss_one (ss_ret se_bl)) sss_nil)
    (sss_cons (ss_for a (si_l (se_o (so_lc (own := [("_law_k", 7)]) a (si_r2 T.b_range (sa_cons se_int (sa_cons se_int sa_nil))) (by kernel_rfl) (fun _ _ _ _ _ => (sg_n 7 a.nd)) (fun _ _ _ _ _ a1 => (sts_one (st_cmp (o_eq a1) (se_op o_mod (se_v 2) (se_v 7)) se_int))) (fun _ _ _ _ _ a1 => (se_v 7)) (by decide)))) (sg_n 6 a.nd) (sss_one (ss_for a (si_l (se_o (so_lst (sa_cons (se_v 6) (sa_cons (se_op o_div (se_v 2) (se_v 6)) sa_nil))))) (sg_n 5 a.nd) (sss_cons (ss_set 8 a (se_op o_mod (se_ft f_int T.b_int bt_int (sa_cons (se_op o_mul (se_ix (se_v 4) se_int) (se_call a (D_law_power T) (by decide) (sa_cons (se_v 5) (sa_cons (se_v 3) sa_nil)))) sa_nil)) (se_v 3)))
    (sss_one (ss_if (st_w (sw_and (st_cmp o_lt (se_v 5) (se_v 2)) (sw_and1 (st_cmp (o_eq a) (se_v 8) (se_ix (se_v 4) se_int))))) (sss_one (ss_ret se_bl)) sss_nil))))))
    (sss_one (ss_ret (se_or (se_cmp (o_eq a) (se_v 1) se_int) (se_one (se_cmp (o_ne a) (se_op o_mod (se_ft f_int T.b_int bt_int (sa_cons (se_op o_mul (se_ix (se_v 4) se_int) (se_call a (D_law_power T) (by decide) (sa_cons (se_v 2) (sa_cons (se_v 3) sa_nil)))) sa_nil)) (se_v 3)) (se_ix (se_v 4) se_int)))))))))))
theorem D_law_is_least (T : Txt K mg) : Def P w K mg base 2 "_law_is_least" 3 (spOf mg 3 sp_law_is_least) := by
  obtain ⟨f, fd, F, hm⟩ := T.f_law_is_least
  exact ⟨f, fd, _, ok_law_is_least T F, hm, F.kp, F.binds (ps := ["_law_heaps_here", "_law_tail", "_law_ring_here"]) fun _ _ _ _ _ _ us hl => match us, hl with | [_, _, _], _ => rfl, rfl⟩
theorem sc_law_heaps : FnScope ["_law_h", "_law_least", "_law_most", "_law_size", "_law_far", "_law_part", "_law_found", "_law_k"] ["_law_h", "_law_least", "_law_most"] (defScope (top 24)) := ⟨rfl, rfl, rfl, by decide +kernel, rfl, by decide +kernel, by decide +kernel⟩
theorem ok_law_heaps (T : Txt K mg) {f : Addr} {fd : FuncData} (F : Fun K "_law_heaps" "_law_heaps" (top 24) f fd) : FnOk P w K mg base (L2.CX P w) 2 f fd ["_law_h", "_law_least", "_law_most"] (spOfR mg 2 sp_law_heaps) := by
  refine def_okR (k := 1) F sc_law_heaps (by decide) (by decide) fun cdv A outer s H E a => ⟨w_law_heaps, ?_, pure_law_heaps⟩
  exact (sss_cons (ss_set 3 a (se_op o_add (se_v 1) (se_draw 0 a (D_law_next T) (by decide) (se_op o_add (se_op o_sub (se_v 2) (se_v 1)) se_int))))
    (sss_cons (ss_set 4 a (se_ix (se_o (so_lst (sa_cons se_int (sa_cons se_int (sa_cons se_int (sa_cons (se_op o_pow se_int se_int) (sa_cons (se_op o_pow se_int se_int) sa_nil))))))) (se_draw 0 a (D_law_next T) (by decide) se_int)))
    (sss_cons (ss_set 5 a (se_ix (se_o (so_lst (sa_cons se_int (sa_cons se_int (sa_cons se_int (sa_cons se_int (sa_cons se_int sa_nil))))))) (se_draw 0 a (D_law_next T) (by decide) se_int)))
    (sss_cons (ss_setLcO 6 (own := [("_law_k", 7)]) a (si_r1 T.b_range (sa_cons (se_v 3) sa_nil)) (by kernel_rfl) (fun _ _ _ _ _ => (sg_n 7 a.nd)) (fun _ _ _ _ _ a1 => sts_nil) (fun _ _ _ _ _ a1 => (se_op o_mul (se_v 5) (se_draw 0 a1 (D_law_next T) (by decide) (se_v 4)))) (by decide))
    (sss_cons (ss_if (st_cmp (o_eq a) (se_fb (f_max a) T.b_max bb_max (sa_cons (se_v 6) sa_nil)) se_int) (sss_one (ss_setI 6 (se_v 5) (se_draw 0 a (D_law_next T) (by decide) (se_v 3)))) sss_nil)
    (sss_one (ss_ret (se_ft f_tuple T.b_tuple bt_tuple (sa_cons (se_v 6) sa_nil)))))))))
theorem D_law_heaps (T : Txt K mg) : Def P w K mg base 2 "_law_heaps" 3 (spOfR mg 2 sp_law_heaps) := by
  obtain ⟨f, fd, F, hm⟩ := T.f_law_heaps
  exact ⟨f, fd, _, ok_law_heaps T F, hm, F.kp, F.binds (ps := ["_law_h", "_law_least", "_law_most"]) fun _ _ _ _ _ _ us hl => match us, hl with | [_, _, _], _ => rfl, rfl⟩
theorem sc_law_pair : FnScope ["_law_h", "_law_whole", "_law_one", "_law_part"] ["_law_h"] (defScope (top 28)) := ⟨rfl, rfl, rfl, by decide +kernel, rfl, by decide +kernel, by decide +kernel⟩
theorem ok_law_pair (T : Txt K mg) {f : Addr} {fd : FuncData} (F : Fun K "_law_pair" "_law_pair" (top 28) f fd) : FnOk P w K mg base (L2.CX P w) 3 f fd ["_law_h"] (spOfR mg 0 sp_law_pair) := by
  refine def_okR (k := 2) F sc_law_pair (by decide) (by decide) fun cdv A outer s H E a => ⟨w_law_pair, ?_, pure_law_pair⟩
  exact (sss_cons (ss_if (st_cmp (o_eq a) (se_draw 0 a (D_law_next T) (by decide) se_int) se_int) (sss_one (ss_ret (se_callR 0 a (D_law_heaps T) (by decide) (sa_cons se_int (sa_cons se_int sa_nil))))) sss_nil)
    (sss_cons (ss_set 1 a (se_op o_mul se_int (se_ix (se_o (so_lst (sa_cons se_int (sa_cons se_int (sa_cons se_int (sa_cons se_int (sa_cons se_int (sa_cons (se_op o_pow se_int se_int) (sa_cons (se_op o_pow se_int se_int) sa_nil))))))))) (se_draw 0 a (D_law_next T) (by decide) se_int))))
    (sss_cons (ss_par 2 3 a (sa_cons (se_draw 0 a (D_law_next T) (by decide) (se_op o_add (se_v 1) se_int)) (sa_cons (se_ix (se_o (so_lst (sa_cons se_int (sa_cons se_int (sa_cons se_int (sa_cons se_int (sa_cons (se_op o_mul se_int (se_op o_pow se_int se_int)) sa_nil))))))) (se_draw 0 a (D_law_next T) (by decide) se_int)) sa_nil)))
    (sss_one (ss_ret (se_tup (sa_cons (se_op o_mul (se_v 2) (se_v 3)) (sa_cons (se_op o_mul (se_op o_sub (se_v 1) (se_v 2)) (se_v 3)) sa_nil))))))))
theorem D_law_pair (T : Txt K mg) : Def P w K mg base 3 "_law_pair" 1 (spOfR mg 0 sp_law_pair) := by
  obtain ⟨f, fd, F, hm⟩ := T.f_law_pair
  exact ⟨f, fd, _, ok_law_pair T F, hm, F.kp, F.binds (ps := ["_law_h"]) fun _ _ _ _ _ _ us hl => match us, hl with | [_], _ => rfl, rfl⟩
theorem sc_law_behind : FnScope ["_law_heaps_here", "_law_step", "_law_row"] ["_law_heaps_here", "_law_step"] (defScope (top 26)) := ⟨rfl, rfl, rfl, by decide +kernel, rfl, by decide +kernel, by decide +kernel⟩
theorem ok_law_behind (T : Txt K mg) {f : Addr} {fd : FuncData} (F : Fun K "_law_behind" "_law_behind" (top 26) f fd) : FnOk P w K mg base (L2.CX P w) 1 f fd ["_law_heaps_here", "_law_step"] (spOf mg 2 sp_law_behind) := by
  refine def_ok (k := 0) F sc_law_behind fun cdv A outer s H E a => ⟨w_law_behind, ?_, pure_law_behind⟩
  exact (sss_cons (ss_own 2 a (so_ft fo_list T.b_list bt_list (sa_cons (se_v 0) sa_nil)))
    (sss_cons (ss_setI 2 (se_op o_sub (se_ix (se_v 2) (se_ix (se_v 1) se_int)) (se_ix (se_v 0) (se_ix (se_v 1) se_int))) (se_ix (se_v 1) se_int))
    (sss_cons (ss_setI 2 (se_op o_add (se_ix (se_v 2) (se_ix (se_v 1) se_int)) (se_ix (se_v 0) (se_ix (se_v 1) se_int))) (se_ix (se_v 1) se_int))
    (sss_one (ss_ret (se_ft f_tuple T.b_tuple bt_tuple (sa_cons (se_v 2) sa_nil)))))))
theorem D_law_behind (T : Txt K mg) : Def P w K mg base 1 "_law_behind" 2 (spOf mg 2 sp_law_behind) := by
  obtain ⟨f, fd, F, hm⟩ := T.f_law_behind
  exact ⟨f, fd, _, ok_law_behind T F, hm, F.kp, F.binds (ps := ["_law_heaps_here", "_law_step"]) fun _ _ _ _ _ _ us hl => match us, hl with | [_, _], _ => rfl, rfl⟩
theorem sc_law_next_pair : FnScope ["_law_heaps_here"] ["_law_heaps_here"] (defScope (top 29)) := ⟨rfl, rfl, rfl, by decide +kernel, rfl, by decide +kernel, by decide +kernel⟩
theorem ok_law_next_pair (T : Txt K mg) {f : Addr} {fd : FuncData} (F : Fun K "_law_next_pair" "_law_next_pair" (top 29) f fd) : FnOk P w K mg base (L2.CX P w) 2 f fd ["_law_heaps_here"] (spOf mg 1 sp_law_next_pair) := by
  refine def_ok (k := 1) F sc_law_next_pair fun cdv A outer s H E a => ⟨w_law_next_pair, ?_, pure_law_next_pair⟩
  exact (sss_one (ss_ret (se_call a (D_law_behind T) (by decide) (sa_cons (se_v 0) (sa_cons (se_if (st_cmp o_ge (se_ix (se_v 0) se_int) (se_ix (se_v 0) se_int)) (se_tup (sa_cons se_int (sa_cons se_int sa_nil))) (se_tup (sa_cons se_int (sa_cons se_int sa_nil)))) sa_nil)))))
theorem D_law_next_pair (T : Txt K mg) : Def P w K mg base 2 "_law_next_pair" 1 (spOf mg 1 sp_law_next_pair) := by
  obtain ⟨f, fd, F, hm⟩ := T.f_law_next_pair
  exact ⟨f, fd, _, ok_law_next_pair T F, hm, F.kp, F.binds (ps := ["_law_heaps_here"]) fun _ _ _ _ _ _ us hl => match us, hl with | [_], _ => rfl, rfl⟩
theorem sc_law_ring : FnScope ["_law_heaps_here", "_law_seen"] ["_law_heaps_here"] (defScope (top 32)) := ⟨rfl, rfl, rfl, by decide +kernel, rfl, by decide +kernel, by decide +kernel⟩
theorem ok_law_ring (T : Txt K mg) {f : Addr} {fd : FuncData} (F : Fun K "_law_ring" "_law_ring" (top 32) f fd) : FnOk P w K mg base (L2.CX P w) 3 f fd ["_law_heaps_here"] (spOf mg 1 sp_law_ring) := by
  refine def_ok (k := 2) F sc_law_ring fun cdv A outer s H E a => ⟨w_law_ring, ?_, pure_law_ring⟩
  exact (sss_cons (ss_own 1 a (so_lst sa_nil))
    (sss_cons (ss_while a (st_cmp (o_notIn a) (se_v 0) (se_v 1)) (sss_cons (ss_if (st_cmp (o_eq a) (se_fb (f_min a) T.b_min bb_min (sa_cons (se_v 0) sa_nil)) se_int) (sss_one (ss_ret (se_tup (sa_cons (se_fb f_len T.b_len bb_len (sa_cons (se_v 1) sa_nil)) (sa_cons se_int sa_nil))))) sss_nil)
    (sss_cons (ss_app 1 (se_v 0))
    (sss_one (ss_set 0 a (se_call a (D_law_next_pair T) (by decide) (sa_cons (se_v 0) sa_nil)))))))
    (sss_one (ss_ret (se_tup (sa_cons (se_idx a (se_v 1) (se_v 0)) (sa_cons (se_op o_sub (se_fb f_len T.b_len bb_len (sa_cons (se_v 1) sa_nil)) (se_idx a (se_v 1) (se_v 0))) sa_nil)))))))
theorem D_law_ring (T : Txt K mg) : Def P w K mg base 3 "_law_ring" 1 (spOf mg 1 sp_law_ring) := by
  obtain ⟨f, fd, F, hm⟩ := T.f_law_ring
  exact ⟨f, fd, _, ok_law_ring T F, hm, F.kp, F.binds (ps := ["_law_heaps_here"]) fun _ _ _ _ _ _ us hl => match us, hl with | [_], _ => rfl, rfl⟩
theorem sc_is_integer : FnScope ["value"] ["value"] (defScope (top 9)) := ⟨rfl, rfl, rfl, by decide +kernel, rfl, by decide +kernel, by decide +kernel⟩
theorem ok_is_integer (T : Txt K mg) {f : Addr} {fd : FuncData} (F : Fun K "is_integer" "is_integer" (top 9) f fd) : FnOk P w K mg base (L2.CX P w) 1 f fd ["value"] (spOf mg 1 sp_is_integer) := by
  refine def_ok (k := 0) F sc_is_integer fun cdv A outer s H E a => ⟨w_is_integer, ?_, pure_is_integer⟩
  exact (sss_one (ss_ret (se_and (se_isi (T := "int") (se_v 0) T.b_isinstance T.b_int bt_int rfl) (se_one (se_not (se_isi (T := "bool") (se_v 0) T.b_isinstance T.b_bool bt_bool rfl))))))
theorem D_is_integer (T : Txt K mg) : Def P w K mg base 1 "is_integer" 1 (spOf mg 1 sp_is_integer) := by
  obtain ⟨f, fd, F, hm⟩ := T.f_is_integer
  exact ⟨f, fd, _, ok_is_integer T F, hm, F.kp, F.binds (ps := ["value"]) fun _ _ _ _ _ _ us hl => match us, hl with | [_], _ => rfl, rfl⟩
theorem sc_is_from : FnScope ["value", "low", "high"] ["value", "low", "high"] (defScope (top 10)) := ⟨rfl, rfl, rfl, by decide +kernel, rfl, by decide +kernel, by decide +kernel⟩
theorem ok_is_from (T : Txt K mg) {f : Addr} {fd : FuncData} (F : Fun K "is_from" "is_from" (top 10) f fd) : FnOk P w K mg base (L2.CX P w) 2 f fd ["value", "low", "high"] (spOf mg 3 sp_is_from) := by
  refine def_ok (k := 1) F sc_is_from fun cdv A outer s H E a => ⟨w_is_from, ?_, pure_is_from⟩
  exact (sss_one (ss_ret (se_and (se_call a (D_is_integer T) (by decide) (sa_cons (se_v 0) sa_nil)) (se_one (se_chain o_le o_le (se_v 1) (se_v 0) (se_v 2))))))
theorem D_is_from (T : Txt K mg) : Def P w K mg base 2 "is_from" 3 (spOf mg 3 sp_is_from) := by
  obtain ⟨f, fd, F, hm⟩ := T.f_is_from
  exact ⟨f, fd, _, ok_is_from T F, hm, F.kp, F.binds (ps := ["value", "low", "high"]) fun _ _ _ _ _ _ us hl => match us, hl with | [_, _, _], _ => rfl, rfl⟩
theorem sc_check_heaps : FnScope ["value", "heap"] ["value"] (defScope (top 11)) := ⟨rfl, rfl, rfl, by decide +kernel, rfl, by decide +kernel, by decide +kernel⟩
theorem ok_check_heaps (T : Txt K mg) {f : Addr} {fd : FuncData} (F : Fun K "check_heaps" "check_heaps" (top 11) f fd) : FnOk P w K mg base (L2.CX P w) 3 f fd ["value"] (spOf mg 1 sp_check_heaps) := by
  refine def_ok (k := 2) F sc_check_heaps fun cdv A outer s H E a => ⟨w_check_heaps, ?_, pure_check_heaps⟩
  exact (sss_cons (ss_if (st_w (sw_or (st_not (st_b (se_isi (T := "tuple") (se_v 0) T.b_isinstance T.b_tuple bt_tuple rfl))) (sw_or1 (st_not (st_chain o_le o_le (se_gi T.c_LEAST_HEAPS.choose_spec) (se_fb f_len T.b_len bb_len (sa_cons (se_v 0) sa_nil)) (se_gi T.c_MOST_HEAPS.choose_spec)))))) (sss_one (ss_raise a T.r_BadHeaps)) sss_nil)
    (sss_cons (ss_for a (si_t (se_v 0)) (sg_n 1 a.nd) (sss_one (ss_if (st_not (st_b (se_call a (D_is_from T) (by decide) (sa_cons (se_v 1) (sa_cons se_int (sa_cons (se_gi T.c_MOST_IN_HEAP.choose_spec) sa_nil)))))) (sss_one (ss_raise a T.r_BadHeaps)) sss_nil)))
    (sss_one (ss_if (st_cmp (o_eq a) (se_fb (f_max a) T.b_max bb_max (sa_cons (se_v 0) sa_nil)) se_int) (sss_one (ss_raise a T.r_BadHeaps)) sss_nil))))
theorem D_check_heaps (T : Txt K mg) : Def P w K mg base 3 "check_heaps" 1 (spOf mg 1 sp_check_heaps) := by
  obtain ⟨f, fd, F, hm⟩ := T.f_check_heaps
  exact ⟨f, fd, _, ok_check_heaps T F, hm, F.kp, F.binds (ps := ["value"]) fun _ _ _ _ _ _ us hl => match us, hl with | [_], _ => rfl, rfl⟩
theorem sc_check_two : FnScope ["heaps"] ["heaps"] (defScope (top 14)) := ⟨rfl, rfl, rfl, by decide +kernel, rfl, by decide +kernel, by decide +kernel⟩
theorem ok_check_two (T : Txt K mg) {f : Addr} {fd : FuncData} (F : Fun K "check_two" "check_two" (top 14) f fd) : FnOk P w K mg base (L2.CX P w) 4 f fd ["heaps"] (spOf mg 1 sp_check_two) := by
  refine def_ok (k := 3) F sc_check_two fun cdv A outer s H E a => ⟨w_check_two, ?_, pure_check_two⟩
  exact (sss_cons (ss_expr (se_call a (D_check_heaps T) (by decide) (sa_cons (se_v 0) sa_nil)))
    (sss_one (ss_if (st_cmp (o_ne a) (se_fb f_len T.b_len bb_len (sa_cons (se_v 0) sa_nil)) se_int) (sss_one (ss_raise a T.r_BadHeaps)) sss_nil)))
theorem D_check_two (T : Txt K mg) : Def P w K mg base 4 "check_two" 1 (spOf mg 1 sp_check_two) := by
  obtain ⟨f, fd, F, hm⟩ := T.f_check_two
  exact ⟨f, fd, _, ok_check_two T F, hm, F.kp, F.binds (ps := ["heaps"]) fun _ _ _ _ _ _ us hl => match us, hl with | [_], _ => rfl, rfl⟩
theorem sc_common : FnScope ["one", "other"] ["one", "other"] (defScope (top 15)) := ⟨rfl, rfl, rfl, by decide +kernel, rfl, by decide +kernel, by decide +kernel⟩
theorem ok_common (T : Txt K mg) {f : Addr} {fd : FuncData} (F : Fun K "common" "common" (top 15) f fd) : FnOk P w K mg base (L2.CX P w) 1 f fd ["one", "other"] (spOf mg 2 sp_common) := by
  refine def_ok (k := 0) F sc_common fun cdv A outer s H E a => ⟨w_common, ?_, pure_common⟩
  exact (sss_cons (ss_while a (st_tru (se_v 1)) (sss_one (ss_par 0 1 a (sa_cons (se_v 1) (sa_cons (se_op o_mod (se_v 0) (se_v 1)) sa_nil)))))
    (sss_one (ss_ret (se_v 0))))
theorem D_common (T : Txt K mg) : Def P w K mg base 1 "common" 2 (spOf mg 2 sp_common) := by
  obtain ⟨f, fd, F, hm⟩ := T.f_common
  exact ⟨f, fd, _, ok_common T F, hm, F.kp, F.binds (ps := ["one", "other"]) fun _ _ _ _ _ _ us hl => match us, hl with | [_, _], _ => rfl, rfl⟩
theorem sc_end_of : FnScope ["heaps", "left", "found"] ["heaps"] (defScope (top 17)) := ⟨rfl, rfl, rfl, by decide +kernel, rfl, by decide +kernel, by decide +kernel⟩
theorem ok_end_of (T : Txt K mg) {f : Addr} {fd : FuncData} (F : Fun K "end_of" "end_of" (top 17) f fd) : FnOk P w K mg base (L2.CX P w) 2 f fd ["heaps"] (spOf mg 1 sp_end_of) := by
  refine def_ok (k := 1) F sc_end_of fun cdv A outer s H E a => ⟨w_end_of, ?_, pure_end_of⟩
  exact (sss_cons (ss_set 1 a (se_op o_div (se_fb (f_sum a) T.b_sum bb_sum (sa_cons (se_v 0) sa_nil)) (se_call a (D_common T) (by decide) (sa_cons (se_ix (se_v 0) se_int) (sa_cons (se_ix (se_v 0) se_int) sa_nil)))))
    (sss_cons (ss_set 2 a se_int)
    (sss_cons (ss_while a (st_cmp (o_eq a) (se_op o_mod (se_v 1) se_int) se_int) (sss_cons (ss_aug 1 a o_idiv se_int)
    (sss_one (ss_aug 2 a o_iadd se_int))))
    (sss_cons (ss_if (st_cmp o_gt (se_v 1) se_int) (sss_one (ss_ret se_non)) sss_nil)
    (sss_one (ss_ret (se_v 2)))))))
theorem D_end_of (T : Txt K mg) : Def P w K mg base 2 "end_of" 1 (spOf mg 1 sp_end_of) := by
  obtain ⟨f, fd, F, hm⟩ := T.f_end_of
  exact ⟨f, fd, _, ok_end_of T F, hm, F.kp, F.binds (ps := ["heaps"]) fun _ _ _ _ _ _ us hl => match us, hl with | [_], _ => rfl, rfl⟩
theorem sc_tail_and_ring : FnScope ["heaps", "whole", "end", "odd", "tail", "ring", "here"] ["heaps"] (defScope (top 20)) := ⟨rfl, rfl, rfl, by decide +kernel, rfl, by decide +kernel, by decide +kernel⟩
theorem ok_tail_and_ring (T : Txt K mg) {f : Addr} {fd : FuncData} (F : Fun K "tail_and_ring" "tail_and_ring" (top 20) f fd) : FnOk P w K mg base (L2.CX P w) 5 f fd ["heaps"] (spOf mg 1 sp_tail_and_ring) := by
  refine def_ok (k := 4) F sc_tail_and_ring fun cdv A outer s H E a => ⟨w_tail_and_ring, ?_, pure_tail_and_ring⟩
  exact (sss_cons (ss_expr (se_call a (D_check_two T) (by decide) (sa_cons (se_v 0) sa_nil)))
    (sss_cons (ss_set 1 a (se_fb (f_sum a) T.b_sum bb_sum (sa_cons (se_v 0) sa_nil)))
    (sss_cons (ss_if (st_cmp o_gt (se_v 1) (se_gi T.c_MOST_SUM.choose_spec)) (sss_one (ss_raise a T.r_TooGreat)) sss_nil)
    (sss_cons (ss_set 2 a (se_call a (D_end_of T) (by decide) (sa_cons (se_v 0) sa_nil)))
    (sss_cons (ss_if (st_cmp o_isNot (se_v 2) se_non) (sss_one (ss_ret (se_tup (sa_cons (se_v 2) (sa_cons se_int sa_nil))))) sss_nil)
    (sss_cons (ss_set 3 a (se_op o_div (se_v 1) (se_call a (D_common T) (by decide) (sa_cons (se_ix (se_v 0) se_int) (sa_cons (se_ix (se_v 0) se_int) sa_nil)))))
    (sss_cons (ss_set 4 a se_int)
    (sss_cons (ss_while a (st_cmp (o_eq a) (se_op o_mod (se_v 3) se_int) se_int) (sss_cons (ss_aug 3 a o_idiv se_int)
    (sss_one (ss_aug 4 a o_iadd se_int))))
    (sss_cons (ss_par 5 6 a (sa_cons se_int (sa_cons (se_op o_mod se_int (se_v 3)) sa_nil)))
    (sss_cons (ss_while a (st_cmp (o_ne a) (se_v 6) se_int) (sss_cons (ss_set 6 a (se_op o_mod (se_op o_mul (se_v 6) se_int) (se_v 3)))
    (sss_one (ss_aug 5 a o_iadd se_int))))
    (sss_one (ss_ret (se_tup (sa_cons (se_v 4) (sa_cons (se_v 5) sa_nil)))))))))))))))
theorem D_tail_and_ring (T : Txt K mg) : Def P w K mg base 5 "tail_and_ring" 1 (spOf mg 1 sp_tail_and_ring) := by
  obtain ⟨f, fd, F, hm⟩ := T.f_tail_and_ring
  exact ⟨f, fd, _, ok_tail_and_ring T F, hm, F.kp, F.binds (ps := ["heaps"]) fun _ _ _ _ _ _ us hl => match us, hl with | [_], _ => rfl, rfl⟩
theorem sc_law_told : FnScope ["_law_heaps_here"] ["_law_heaps_here"] (defScope (top 34)) := ⟨rfl, rfl, rfl, by decide +kernel, rfl, by decide +kernel, by decide +kernel⟩
theorem ok_law_told (T : Txt K mg) {f : Addr} {fd : FuncData} (F : Fun K "_law_told" "_law_told" (top 34) f fd) : FnOk P w K mg base (L2.CX P w) 6 f fd ["_law_heaps_here"] (spOf mg 1 sp_law_told) := by
  refine def_ok (k := 5) F sc_law_told fun cdv A outer s H E a => ⟨w_law_told, ?_, pure_law_told⟩
  exact (sss_one (ss_try a T.x_TooGreat.choose_spec.1 T.x_TooGreat.choose_spec.2.1 (fun _ _ _ a1 => (sss_one (ss_ret (se_call a1 (D_tail_and_ring T) (by decide) (sa_cons (se_v 0) sa_nil))))) (fun _ _ _ => (sss_one (ss_ret se_non)))))
theorem D_law_told (T : Txt K mg) : Def P w K mg base 6 "_law_told" 1 (spOf mg 1 sp_law_told) := by
  obtain ⟨f, fd, F, hm⟩ := T.f_law_told
  exact ⟨f, fd, _, ok_law_told T F, hm, F.kp, F.binds (ps := ["_law_heaps_here"]) fun _ _ _ _ _ _ us hl => match us, hl with | [_], _ => rfl, rfl⟩
theorem sc_law_walk : FnScope ["_law_heaps_here", "_law_many", "_law_turn"] ["_law_heaps_here", "_law_many"] (defScope (top 30)) := ⟨rfl, rfl, rfl, by decide +kernel, rfl, by decide +kernel, by decide +kernel⟩
theorem ok_law_walk (T : Txt K mg) {f : Addr} {fd : FuncData} (F : Fun K "_law_walk" "_law_walk" (top 30) f fd) : FnOk P w K mg base (L2.CX P w) 3 f fd ["_law_heaps_here", "_law_many"] (spOf mg 2 sp_law_walk) := by
  refine def_ok (k := 2) F sc_law_walk fun cdv A outer s H E a => ⟨w_law_walk, ?_, pure_law_walk⟩
  exact (sss_cons (ss_for a (si_r1 T.b_range (sa_cons (se_v 1) sa_nil)) (sg_n 2 a.nd) (sss_cons (ss_if (st_cmp (o_eq a) (se_fb (f_min a) T.b_min bb_min (sa_cons (se_v 0) sa_nil)) se_int) (sss_one (ss_ret (se_tup (sa_cons (se_v 0) (sa_cons (se_v 2) sa_nil))))) sss_nil)
    (sss_one (ss_set 0 a (se_call a (D_law_next_pair T) (by decide) (sa_cons (se_v 0) sa_nil))))))
    (sss_one (ss_ret (se_tup (sa_cons (se_v 0) (sa_cons (se_v 1) sa_nil))))))
theorem D_law_walk (T : Txt K mg) : Def P w K mg base 3 "_law_walk" 2 (spOf mg 2 sp_law_walk) := by
  obtain ⟨f, fd, F, hm⟩ := T.f_law_walk
  exact ⟨f, fd, _, ok_law_walk T F, hm, F.kp, F.binds (ps := ["_law_heaps_here", "_law_many"]) fun _ _ _ _ _ _ us hl => match us, hl with | [_, _], _ => rfl, rfl⟩
theorem sc_power : FnScope ["many", "modulus", "found", "base"] ["many", "modulus"] (defScope (top 16)) := ⟨rfl, rfl, rfl, by decide +kernel, rfl, by decide +kernel, by decide +kernel⟩
theorem ok_power (T : Txt K mg) {f : Addr} {fd : FuncData} (F : Fun K "power" "power" (top 16) f fd) : FnOk P w K mg base (L2.CX P w) 1 f fd ["many", "modulus"] (spOf mg 2 sp_power) := by
  refine def_ok (k := 0) F sc_power fun cdv A outer s H E a => ⟨w_power, ?_, pure_power⟩
  exact (sss_cons (ss_par 2 3 a (sa_cons (se_op o_mod se_int (se_v 1)) (sa_cons (se_op o_mod se_int (se_v 1)) sa_nil)))
    (sss_cons (ss_while a (st_cmp o_gt (se_v 0) se_int) (sss_cons (ss_if (st_cmp (o_eq a) (se_op o_mod (se_v 0) se_int) se_int) (sss_one (ss_set 2 a (se_op o_mod (se_op o_mul (se_v 2) (se_v 3)) (se_v 1)))) sss_nil)
    (sss_cons (ss_set 3 a (se_op o_mod (se_op o_mul (se_v 3) (se_v 3)) (se_v 1)))
    (sss_one (ss_aug 0 a o_idiv se_int)))))
    (sss_one (ss_ret (se_v 2)))))
theorem D_power (T : Txt K mg) : Def P w K mg base 1 "power" 2 (spOf mg 2 sp_power) := by
  obtain ⟨f, fd, F, hm⟩ := T.f_power
  exact ⟨f, fd, _, ok_power T F, hm, F.kp, F.binds (ps := ["many", "modulus"]) fun _ _ _ _ _ _ us hl => match us, hl with | [_, _], _ => rfl, rfl⟩
theorem sc_after : FnScope ["heaps", "many", "whole", "end", "first"] ["heaps", "many"] (defScope (top 18)) := ⟨rfl, rfl, rfl, by decide +kernel, rfl, by decide +kernel, by decide +kernel⟩
theorem ok_after (T : Txt K mg) {f : Addr} {fd : FuncData} (F : Fun K "after" "after" (top 18) f fd) : FnOk P w K mg base (L2.CX P w) 5 f fd ["heaps", "many"] (spOf mg 2 sp_after) := by
  refine def_ok (k := 4) F sc_after fun cdv A outer s H E a => ⟨w_after, ?_, pure_after⟩
  exact (sss_cons (ss_expr (se_call a (D_check_two T) (by decide) (sa_cons (se_v 0) sa_nil)))
    (sss_cons (ss_if (st_not (st_b (se_call a (D_is_from T) (by decide) (sa_cons (se_v 1) (sa_cons se_int (sa_cons (se_gi T.c_MOST_IN_HEAP.choose_spec) sa_nil)))))) (sss_one (ss_raise a T.r_BadMany)) sss_nil)
    (sss_cons (ss_set 2 a (se_fb (f_sum a) T.b_sum bb_sum (sa_cons (se_v 0) sa_nil)))
    (sss_cons (ss_set 3 a (se_call a (D_end_of T) (by decide) (sa_cons (se_v 0) sa_nil)))
    (sss_cons (ss_if (st_w (sw_and (st_cmp o_isNot (se_v 3) se_non) (sw_and1 (st_cmp o_ge (se_v 1) (se_v 3))))) (sss_cons (ss_if (st_cmp (o_eq a) (se_v 3) se_int) (sss_one (ss_ret (se_v 0))) sss_nil)
    (sss_one (ss_ret (se_tup (sa_cons se_int (sa_cons (se_v 2) sa_nil)))))) sss_nil)
    (sss_cons (ss_set 4 a (se_op o_mod (se_op o_mul (se_ix (se_v 0) se_int) (se_call a (D_power T) (by decide) (sa_cons (se_v 1) (sa_cons (se_v 2) sa_nil)))) (se_v 2)))
    (sss_one (ss_ret (se_tup (sa_cons (se_v 4) (sa_cons (se_op o_sub (se_v 2) (se_v 4)) sa_nil)))))))))))
theorem D_after (T : Txt K mg) : Def P w K mg base 5 "after" 2 (spOf mg 2 sp_after) := by
  obtain ⟨f, fd, F, hm⟩ := T.f_after
  exact ⟨f, fd, _, ok_after T F, hm, F.kp, F.binds (ps := ["heaps", "many"]) fun _ _ _ _ _ _ us hl => match us, hl with | [_, _], _ => rfl, rfl⟩
theorem sc_ends_after : FnScope ["heaps"] ["heaps"] (defScope (top 19)) := ⟨rfl, rfl, rfl, by decide +kernel, rfl, by decide +kernel, by decide +kernel⟩
theorem ok_ends_after (T : Txt K mg) {f : Addr} {fd : FuncData} (F : Fun K "ends_after" "ends_after" (top 19) f fd) : FnOk P w K mg base (L2.CX P w) 5 f fd ["heaps"] (spOf mg 1 sp_ends_after) := by
  refine def_ok (k := 4) F sc_ends_after fun cdv A outer s H E a => ⟨w_ends_after, ?_, pure_ends_after⟩
  exact (sss_cons (ss_expr (se_call a (D_check_two T) (by decide) (sa_cons (se_v 0) sa_nil)))
    (sss_one (ss_ret (se_call a (D_end_of T) (by decide) (sa_cons (se_v 0) sa_nil)))))
theorem D_ends_after (T : Txt K mg) : Def P w K mg base 5 "ends_after" 1 (spOf mg 1 sp_ends_after) := by
  obtain ⟨f, fd, F, hm⟩ := T.f_ends_after
  exact ⟨f, fd, _, ok_ends_after T F, hm, F.kp, F.binds (ps := ["heaps"]) fun _ _ _ _ _ _ us hl => match us, hl with | [_], _ => rfl, rfl⟩
theorem sc_law : FnScope ["_law_script", "_law_h", "_law_heaps_here", "_law_whole", "_law_many", "_law_here", "_law_gone", "_law_end", "_law_told_here", "_law_ring_here"] ["_law_script"] (defScope (top 35)) := ⟨rfl, rfl, rfl, by decide +kernel, rfl, by decide +kernel, by decide +kernel⟩
theorem ok_law (T : Txt K mg) {f : Addr} {fd : FuncData} (F : Fun K "law" "law" (top 35) f fd) : FnOk P w K mg base (L2.CX P w) 7 f fd ["_law_script"] (spLaw K) := by
  refine law_ok (k := 6) (i := 1) (seed := 3) F sc_law (by decide) fun cdv A outer s H E a => ⟨_, _, _, w_law, rfl, ps_mix 1 a (D_law_mix T) (by decide), ?_, pure_law⟩
  exact (sss_cons (ss_set 2 a (se_callR 1 a (D_law_pair T) (by decide) sa_nil))
    (sss_cons (ss_par 3 4 a (sa_cons (se_fb (f_sum a) T.b_sum bb_sum (sa_cons (se_v 2) sa_nil)) (sa_cons (se_draw 1 a (D_law_next T) (by decide) se_int) sa_nil)))
    (sss_cons (ss_asg (se_call a (D_law_walk T) (by decide) (sa_cons (se_v 2) (sa_cons (se_v 4) sa_nil))) (sg_t rfl (sgs_cons (sg_n 5 a.nd) (sgs_cons (sg_n 6 a.nd) sgs_nil))))
    (sss_cons (ss_if (st_cmp (o_ne a) (se_call a (D_after T) (by decide) (sa_cons (se_v 2) (sa_cons (se_v 4) sa_nil))) (se_v 5)) (sss_one (ss_ret se_bl)) sss_nil)
    (sss_cons (ss_set 7 a (se_call a (D_ends_after T) (by decide) (sa_cons (se_v 2) sa_nil)))
    (sss_cons (ss_if (st_w (sw_or (st_w (sw_and (st_cmp o_lt (se_v 6) (se_v 4)) (sw_and1 (st_cmp (o_ne a) (se_v 7) (se_v 6))))) (sw_or1 (st_w (sw_and (st_cmp (o_eq a) (se_fb (f_min a) T.b_min bb_min (sa_cons (se_v 2) sa_nil)) se_int) (sw_and1 (st_cmp (o_ne a) (se_v 7) se_int))))))) (sss_one (ss_ret se_bl)) sss_nil)
    (sss_cons (ss_if (st_cmp o_isNot (se_v 7) se_non) (sss_cons (ss_if (st_w (sw_or (st_cmp (o_ne a) (se_ix (se_call a (D_law_walk T) (by decide) (sa_cons (se_v 2) (sa_cons (se_v 7) sa_nil))) se_int) (se_v 7)) (sw_or1 (st_cmp o_gt (se_fb (f_min a) T.b_min bb_min (sa_cons (se_ix (se_call a (D_law_walk T) (by decide) (sa_cons (se_v 2) (sa_cons (se_v 7) sa_nil))) se_int) sa_nil)) se_int)))) (sss_one (ss_ret se_bl)) sss_nil)
    (sss_one (ss_if (st_w (sw_and (st_cmp o_gt (se_v 7) se_int) (sw_and1 (st_cmp (o_eq a) (se_fb (f_min a) T.b_min bb_min (sa_cons (se_ix (se_call a (D_law_walk T) (by decide) (sa_cons (se_v 2) (sa_cons (se_op o_sub (se_v 7) se_int) sa_nil))) se_int) sa_nil)) se_int)))) (sss_one (ss_ret se_bl)) sss_nil))) sss_nil)
    (sss_cons (ss_if (st_w (sw_and (st_cmp o_is (se_v 7) se_non) (sw_and1 (st_cmp (o_eq a) (se_fb (f_min a) T.b_min bb_min (sa_cons (se_ix (se_call a (D_law_walk T) (by decide) (sa_cons (se_v 2) (sa_cons se_int sa_nil))) se_int) sa_nil)) se_int)))) (sss_one (ss_ret se_bl)) sss_nil)
    (sss_cons (ss_set 4 a (se_draw 1 a (D_law_next T) (by decide) (se_ix (se_o (so_lst (sa_cons (se_op o_pow se_int se_int) (sa_cons (se_op o_pow se_int se_int) sa_nil)))) (se_draw 1 a (D_law_next T) (by decide) se_int))))
    (sss_cons (ss_set 8 a (se_call a (D_after T) (by decide) (sa_cons (se_v 2) (sa_cons (se_v 4) sa_nil))))
    (sss_cons (ss_if (st_w (sw_or (st_cmp (o_ne a) (se_fb (f_sum a) T.b_sum bb_sum (sa_cons (se_v 8) sa_nil)) (se_v 3)) (sw_or1 (st_w (sw_and (st_cmp o_is (se_v 7) se_non) (sw_and1 (st_cmp (o_ne a) (se_ix (se_v 8) se_int) (se_op o_mod (se_ft f_int T.b_int bt_int (sa_cons (se_op o_mul (se_ix (se_v 2) se_int) (se_call a (D_law_power T) (by decide) (sa_cons (se_v 4) (sa_cons (se_v 3) sa_nil)))) sa_nil)) (se_v 3))))))))) (sss_one (ss_ret se_bl)) sss_nil)
    (sss_cons (ss_if (st_w (sw_and (st_cmp o_isNot (se_v 7) se_non) (sw_and1 (st_cmp (o_ne a) (se_v 8) (se_ix (se_call a (D_law_walk T) (by decide) (sa_cons (se_v 2) (sa_cons (se_fb (f_min2 a) T.b_min bb_min (sa_cons (se_v 4) (sa_cons (se_v 7) sa_nil))) sa_nil))) se_int))))) (sss_one (ss_ret se_bl)) sss_nil)
    (sss_cons (ss_set 9 a (se_call a (D_law_told T) (by decide) (sa_cons (se_v 2) sa_nil)))
    (sss_cons (ss_if (st_cmp o_gt (se_v 3) (se_op o_pow se_int se_int)) (sss_one (ss_ret (se_cmp o_is (se_v 9) se_non))) sss_nil)
    (sss_cons (ss_if (st_w (sw_and (st_cmp o_gt (se_v 3) se_int) (sw_and1 (st_cmp o_gt (se_ix (se_v 9) se_int) se_int)))) (sss_one (ss_ret (se_call a (D_law_is_least T) (by decide) (sa_cons (se_v 2) (sa_cons (se_ix (se_v 9) se_int) (sa_cons (se_ix (se_v 9) se_int) sa_nil)))))) sss_nil)
    (sss_one (ss_ret (se_cmp (o_eq a) (se_v 9) (se_call a (D_law_ring T) (by decide) (sa_cons (se_v 2) sa_nil))))))))))))))))))))
end
theorem all_mk {P : Program} {w : World} {K : PySem.W.Frag} {h : Heap} {mg : Str → Option Value} {fa : Addr} (X : K.In h) (G : h.Ns mainGlobals mg) (hfa : mg "law" = some (.ref fa))
    {f_law_power : Addr} {oc_law_power kV_law_power dc_law_power pm_law_power cd_law_power ct_law_power : Value} {od_law_power an_law_power : Option Addr} {sl_law_power : Array (Option Value)}
    {f_law_is_least : Addr} {oc_law_is_least kV_law_is_least dc_law_is_least pm_law_is_least cd_law_is_least ct_law_is_least : Value} {od_law_is_least an_law_is_least : Option Addr} {sl_law_is_least : Array (Option Value)}
    {f_law_heaps : Addr} {oc_law_heaps kV_law_heaps dc_law_heaps pm_law_heaps cd_law_heaps ct_law_heaps : Value} {od_law_heaps an_law_heaps : Option Addr} {sl_law_heaps : Array (Option Value)}
    {f_law_pair : Addr} {oc_law_pair kV_law_pair dc_law_pair pm_law_pair cd_law_pair ct_law_pair : Value} {od_law_pair an_law_pair : Option Addr} {sl_law_pair : Array (Option Value)}
    {f_law_behind : Addr} {oc_law_behind kV_law_behind dc_law_behind pm_law_behind cd_law_behind ct_law_behind : Value} {od_law_behind an_law_behind : Option Addr} {sl_law_behind : Array (Option Value)}
    {f_law_next_pair : Addr} {oc_law_next_pair kV_law_next_pair dc_law_next_pair pm_law_next_pair cd_law_next_pair ct_law_next_pair : Value} {od_law_next_pair an_law_next_pair : Option Addr} {sl_law_next_pair : Array (Option Value)}
    {f_law_ring : Addr} {oc_law_ring kV_law_ring dc_law_ring pm_law_ring cd_law_ring ct_law_ring : Value} {od_law_ring an_law_ring : Option Addr} {sl_law_ring : Array (Option Value)}
    {f_is_integer : Addr} {oc_is_integer kV_is_integer dc_is_integer pm_is_integer cd_is_integer ct_is_integer : Value} {od_is_integer an_is_integer : Option Addr} {sl_is_integer : Array (Option Value)}
    {f_is_from : Addr} {oc_is_from kV_is_from dc_is_from pm_is_from cd_is_from ct_is_from : Value} {od_is_from an_is_from : Option Addr} {sl_is_from : Array (Option Value)}
    {f_check_heaps : Addr} {oc_check_heaps kV_check_heaps dc_check_heaps pm_check_heaps cd_check_heaps ct_check_heaps : Value} {od_check_heaps an_check_heaps : Option Addr} {sl_check_heaps : Array (Option Value)}
    {f_check_two : Addr} {oc_check_two kV_check_two dc_check_two pm_check_two cd_check_two ct_check_two : Value} {od_check_two an_check_two : Option Addr} {sl_check_two : Array (Option Value)}
    {f_common : Addr} {oc_common kV_common dc_common pm_common cd_common ct_common : Value} {od_common an_common : Option Addr} {sl_common : Array (Option Value)}
    {f_end_of : Addr} {oc_end_of kV_end_of dc_end_of pm_end_of cd_end_of ct_end_of : Value} {od_end_of an_end_of : Option Addr} {sl_end_of : Array (Option Value)}
    {f_tail_and_ring : Addr} {oc_tail_and_ring kV_tail_and_ring dc_tail_and_ring pm_tail_and_ring cd_tail_and_ring ct_tail_and_ring : Value} {od_tail_and_ring an_tail_and_ring : Option Addr} {sl_tail_and_ring : Array (Option Value)}
    {f_law_told : Addr} {oc_law_told kV_law_told dc_law_told pm_law_told cd_law_told ct_law_told : Value} {od_law_told an_law_told : Option Addr} {sl_law_told : Array (Option Value)}
    {f_law_walk : Addr} {oc_law_walk kV_law_walk dc_law_walk pm_law_walk cd_law_walk ct_law_walk : Value} {od_law_walk an_law_walk : Option Addr} {sl_law_walk : Array (Option Value)}
    {f_power : Addr} {oc_power kV_power dc_power pm_power cd_power ct_power : Value} {od_power an_power : Option Addr} {sl_power : Array (Option Value)}
    {f_after : Addr} {oc_after kV_after dc_after pm_after cd_after ct_after : Value} {od_after an_after : Option Addr} {sl_after : Array (Option Value)}
    {f_ends_after : Addr} {oc_ends_after kV_ends_after dc_ends_after pm_ends_after cd_ends_after ct_ends_after : Value} {od_ends_after an_ends_after : Option Addr} {sl_ends_after : Array (Option Value)}
    {f_law : Addr} {oc_law kV_law dc_law pm_law cd_law ct_law : Value} {od_law an_law : Option Addr} {sl_law : Array (Option Value)}
    {f_law_mix : Addr} {oc_law_mix kV_law_mix dc_law_mix pm_law_mix cd_law_mix ct_law_mix : Value} {od_law_mix an_law_mix : Option Addr} {sl_law_mix : Array (Option Value)}
    {f_law_next : Addr} {oc_law_next kV_law_next dc_law_next pm_law_next cd_law_next ct_law_next : Value} {od_law_next an_law_next : Option Addr} {sl_law_next : Array (Option Value)}
    {C_BadHeaps : Addr}
    {C_BadMany : Addr}
    {C_TooGreat : Addr}
    (a_law_power : PySem.W.nsIn K mainGlobals "_law_power" = some (some (.ref f_law_power)))
    (l_law_power : K.lookup f_law_power = some ⟨oc_law_power, od_law_power, .func (PySem.W.fnOf "_law_power" "_law_power" (defArgs (top 31)) (defBody (top 31)) (defScope (top 31)) .none kV_law_power dc_law_power pm_law_power an_law_power cd_law_power ct_law_power), sl_law_power⟩)
    (c_law_power : PySem.W.codeIn K cd_law_power "_law_power" = true)
    (k_law_power : PySem.W.keepIn K (.ref f_law_power) = true)
    (a_law_is_least : PySem.W.nsIn K mainGlobals "_law_is_least" = some (some (.ref f_law_is_least)))
    (l_law_is_least : K.lookup f_law_is_least = some ⟨oc_law_is_least, od_law_is_least, .func (PySem.W.fnOf "_law_is_least" "_law_is_least" (defArgs (top 33)) (defBody (top 33)) (defScope (top 33)) .none kV_law_is_least dc_law_is_least pm_law_is_least an_law_is_least cd_law_is_least ct_law_is_least), sl_law_is_least⟩)
    (c_law_is_least : PySem.W.codeIn K cd_law_is_least "_law_is_least" = true)
    (k_law_is_least : PySem.W.keepIn K (.ref f_law_is_least) = true)
    (a_law_heaps : PySem.W.nsIn K mainGlobals "_law_heaps" = some (some (.ref f_law_heaps)))
    (l_law_heaps : K.lookup f_law_heaps = some ⟨oc_law_heaps, od_law_heaps, .func (PySem.W.fnOf "_law_heaps" "_law_heaps" (defArgs (top 24)) (defBody (top 24)) (defScope (top 24)) .none kV_law_heaps dc_law_heaps pm_law_heaps an_law_heaps cd_law_heaps ct_law_heaps), sl_law_heaps⟩)
    (c_law_heaps : PySem.W.codeIn K cd_law_heaps "_law_heaps" = true)
    (k_law_heaps : PySem.W.keepIn K (.ref f_law_heaps) = true)
    (a_law_pair : PySem.W.nsIn K mainGlobals "_law_pair" = some (some (.ref f_law_pair)))
    (l_law_pair : K.lookup f_law_pair = some ⟨oc_law_pair, od_law_pair, .func (PySem.W.fnOf "_law_pair" "_law_pair" (defArgs (top 28)) (defBody (top 28)) (defScope (top 28)) .none kV_law_pair dc_law_pair pm_law_pair an_law_pair cd_law_pair ct_law_pair), sl_law_pair⟩)
    (c_law_pair : PySem.W.codeIn K cd_law_pair "_law_pair" = true)
    (k_law_pair : PySem.W.keepIn K (.ref f_law_pair) = true)
    (a_law_behind : PySem.W.nsIn K mainGlobals "_law_behind" = some (some (.ref f_law_behind)))
    (l_law_behind : K.lookup f_law_behind = some ⟨oc_law_behind, od_law_behind, .func (PySem.W.fnOf "_law_behind" "_law_behind" (defArgs (top 26)) (defBody (top 26)) (defScope (top 26)) .none kV_law_behind dc_law_behind pm_law_behind an_law_behind cd_law_behind ct_law_behind), sl_law_behind⟩)
    (c_law_behind : PySem.W.codeIn K cd_law_behind "_law_behind" = true)
    (k_law_behind : PySem.W.keepIn K (.ref f_law_behind) = true)
    (a_law_next_pair : PySem.W.nsIn K mainGlobals "_law_next_pair" = some (some (.ref f_law_next_pair)))
    (l_law_next_pair : K.lookup f_law_next_pair = some ⟨oc_law_next_pair, od_law_next_pair, .func (PySem.W.fnOf "_law_next_pair" "_law_next_pair" (defArgs (top 29)) (defBody (top 29)) (defScope (top 29)) .none kV_law_next_pair dc_law_next_pair pm_law_next_pair an_law_next_pair cd_law_next_pair ct_law_next_pair), sl_law_next_pair⟩)
    (c_law_next_pair : PySem.W.codeIn K cd_law_next_pair "_law_next_pair" = true)
    (k_law_next_pair : PySem.W.keepIn K (.ref f_law_next_pair) = true)
    (a_law_ring : PySem.W.nsIn K mainGlobals "_law_ring" = some (some (.ref f_law_ring)))
    (l_law_ring : K.lookup f_law_ring = some ⟨oc_law_ring, od_law_ring, .func (PySem.W.fnOf "_law_ring" "_law_ring" (defArgs (top 32)) (defBody (top 32)) (defScope (top 32)) .none kV_law_ring dc_law_ring pm_law_ring an_law_ring cd_law_ring ct_law_ring), sl_law_ring⟩)
    (c_law_ring : PySem.W.codeIn K cd_law_ring "_law_ring" = true)
    (k_law_ring : PySem.W.keepIn K (.ref f_law_ring) = true)
    (a_is_integer : PySem.W.nsIn K mainGlobals "is_integer" = some (some (.ref f_is_integer)))
    (l_is_integer : K.lookup f_is_integer = some ⟨oc_is_integer, od_is_integer, .func (PySem.W.fnOf "is_integer" "is_integer" (defArgs (top 9)) (defBody (top 9)) (defScope (top 9)) .none kV_is_integer dc_is_integer pm_is_integer an_is_integer cd_is_integer ct_is_integer), sl_is_integer⟩)
    (c_is_integer : PySem.W.codeIn K cd_is_integer "is_integer" = true)
    (k_is_integer : PySem.W.keepIn K (.ref f_is_integer) = true)
    (a_is_from : PySem.W.nsIn K mainGlobals "is_from" = some (some (.ref f_is_from)))
    (l_is_from : K.lookup f_is_from = some ⟨oc_is_from, od_is_from, .func (PySem.W.fnOf "is_from" "is_from" (defArgs (top 10)) (defBody (top 10)) (defScope (top 10)) .none kV_is_from dc_is_from pm_is_from an_is_from cd_is_from ct_is_from), sl_is_from⟩)
    (c_is_from : PySem.W.codeIn K cd_is_from "is_from" = true)
    (k_is_from : PySem.W.keepIn K (.ref f_is_from) = true)
    (a_check_heaps : PySem.W.nsIn K mainGlobals "check_heaps" = some (some (.ref f_check_heaps)))
    (l_check_heaps : K.lookup f_check_heaps = some ⟨oc_check_heaps, od_check_heaps, .func (PySem.W.fnOf "check_heaps" "check_heaps" (defArgs (top 11)) (defBody (top 11)) (defScope (top 11)) .none kV_check_heaps dc_check_heaps pm_check_heaps an_check_heaps cd_check_heaps ct_check_heaps), sl_check_heaps⟩)
    (c_check_heaps : PySem.W.codeIn K cd_check_heaps "check_heaps" = true)
    (k_check_heaps : PySem.W.keepIn K (.ref f_check_heaps) = true)
    (a_check_two : PySem.W.nsIn K mainGlobals "check_two" = some (some (.ref f_check_two)))
    (l_check_two : K.lookup f_check_two = some ⟨oc_check_two, od_check_two, .func (PySem.W.fnOf "check_two" "check_two" (defArgs (top 14)) (defBody (top 14)) (defScope (top 14)) .none kV_check_two dc_check_two pm_check_two an_check_two cd_check_two ct_check_two), sl_check_two⟩)
    (c_check_two : PySem.W.codeIn K cd_check_two "check_two" = true)
    (k_check_two : PySem.W.keepIn K (.ref f_check_two) = true)
    (a_common : PySem.W.nsIn K mainGlobals "common" = some (some (.ref f_common)))
    (l_common : K.lookup f_common = some ⟨oc_common, od_common, .func (PySem.W.fnOf "common" "common" (defArgs (top 15)) (defBody (top 15)) (defScope (top 15)) .none kV_common dc_common pm_common an_common cd_common ct_common), sl_common⟩)
    (c_common : PySem.W.codeIn K cd_common "common" = true)
    (k_common : PySem.W.keepIn K (.ref f_common) = true)
    (a_end_of : PySem.W.nsIn K mainGlobals "end_of" = some (some (.ref f_end_of)))
    (l_end_of : K.lookup f_end_of = some ⟨oc_end_of, od_end_of, .func (PySem.W.fnOf "end_of" "end_of" (defArgs (top 17)) (defBody (top 17)) (defScope (top 17)) .none kV_end_of dc_end_of pm_end_of an_end_of cd_end_of ct_end_of), sl_end_of⟩)
    (c_end_of : PySem.W.codeIn K cd_end_of "end_of" = true)
    (k_end_of : PySem.W.keepIn K (.ref f_end_of) = true)
    (a_tail_and_ring : PySem.W.nsIn K mainGlobals "tail_and_ring" = some (some (.ref f_tail_and_ring)))
    (l_tail_and_ring : K.lookup f_tail_and_ring = some ⟨oc_tail_and_ring, od_tail_and_ring, .func (PySem.W.fnOf "tail_and_ring" "tail_and_ring" (defArgs (top 20)) (defBody (top 20)) (defScope (top 20)) .none kV_tail_and_ring dc_tail_and_ring pm_tail_and_ring an_tail_and_ring cd_tail_and_ring ct_tail_and_ring), sl_tail_and_ring⟩)
    (c_tail_and_ring : PySem.W.codeIn K cd_tail_and_ring "tail_and_ring" = true)
    (k_tail_and_ring : PySem.W.keepIn K (.ref f_tail_and_ring) = true)
    (a_law_told : PySem.W.nsIn K mainGlobals "_law_told" = some (some (.ref f_law_told)))
    (l_law_told : K.lookup f_law_told = some ⟨oc_law_told, od_law_told, .func (PySem.W.fnOf "_law_told" "_law_told" (defArgs (top 34)) (defBody (top 34)) (defScope (top 34)) .none kV_law_told dc_law_told pm_law_told an_law_told cd_law_told ct_law_told), sl_law_told⟩)
    (c_law_told : PySem.W.codeIn K cd_law_told "_law_told" = true)
    (k_law_told : PySem.W.keepIn K (.ref f_law_told) = true)
    (a_law_walk : PySem.W.nsIn K mainGlobals "_law_walk" = some (some (.ref f_law_walk)))
    (l_law_walk : K.lookup f_law_walk = some ⟨oc_law_walk, od_law_walk, .func (PySem.W.fnOf "_law_walk" "_law_walk" (defArgs (top 30)) (defBody (top 30)) (defScope (top 30)) .none kV_law_walk dc_law_walk pm_law_walk an_law_walk cd_law_walk ct_law_walk), sl_law_walk⟩)
    (c_law_walk : PySem.W.codeIn K cd_law_walk "_law_walk" = true)
    (k_law_walk : PySem.W.keepIn K (.ref f_law_walk) = true)
    (a_power : PySem.W.nsIn K mainGlobals "power" = some (some (.ref f_power)))
    (l_power : K.lookup f_power = some ⟨oc_power, od_power, .func (PySem.W.fnOf "power" "power" (defArgs (top 16)) (defBody (top 16)) (defScope (top 16)) .none kV_power dc_power pm_power an_power cd_power ct_power), sl_power⟩)
    (c_power : PySem.W.codeIn K cd_power "power" = true)
    (k_power : PySem.W.keepIn K (.ref f_power) = true)
    (a_after : PySem.W.nsIn K mainGlobals "after" = some (some (.ref f_after)))
    (l_after : K.lookup f_after = some ⟨oc_after, od_after, .func (PySem.W.fnOf "after" "after" (defArgs (top 18)) (defBody (top 18)) (defScope (top 18)) .none kV_after dc_after pm_after an_after cd_after ct_after), sl_after⟩)
    (c_after : PySem.W.codeIn K cd_after "after" = true)
    (k_after : PySem.W.keepIn K (.ref f_after) = true)
    (a_ends_after : PySem.W.nsIn K mainGlobals "ends_after" = some (some (.ref f_ends_after)))
    (l_ends_after : K.lookup f_ends_after = some ⟨oc_ends_after, od_ends_after, .func (PySem.W.fnOf "ends_after" "ends_after" (defArgs (top 19)) (defBody (top 19)) (defScope (top 19)) .none kV_ends_after dc_ends_after pm_ends_after an_ends_after cd_ends_after ct_ends_after), sl_ends_after⟩)
    (c_ends_after : PySem.W.codeIn K cd_ends_after "ends_after" = true)
    (k_ends_after : PySem.W.keepIn K (.ref f_ends_after) = true)
    (a_law : PySem.W.nsIn K mainGlobals "law" = some (some (.ref f_law)))
    (l_law : K.lookup f_law = some ⟨oc_law, od_law, .func (PySem.W.fnOf "law" "law" (defArgs (top 35)) (defBody (top 35)) (defScope (top 35)) .none kV_law dc_law pm_law an_law cd_law ct_law), sl_law⟩)
    (c_law : PySem.W.codeIn K cd_law "law" = true)
    (k_law : PySem.W.keepIn K (.ref f_law) = true)
    (a_law_mix : PySem.W.nsIn K mainGlobals "_law_mix" = some (some (.ref f_law_mix)))
    (l_law_mix : K.lookup f_law_mix = some ⟨oc_law_mix, od_law_mix, .func (PySem.W.fnOf "_law_mix" "_law_mix" (defArgs (top 22)) (defBody (top 22)) (defScope (top 22)) .none kV_law_mix dc_law_mix pm_law_mix an_law_mix cd_law_mix ct_law_mix), sl_law_mix⟩)
    (c_law_mix : PySem.W.codeIn K cd_law_mix "_law_mix" = true)
    (k_law_mix : PySem.W.keepIn K (.ref f_law_mix) = true)
    (a_law_next : PySem.W.nsIn K mainGlobals "_law_next" = some (some (.ref f_law_next)))
    (l_law_next : K.lookup f_law_next = some ⟨oc_law_next, od_law_next, .func (PySem.W.fnOf "_law_next" "_law_next" (defArgs (top 23)) (defBody (top 23)) (defScope (top 23)) .none kV_law_next dc_law_next pm_law_next an_law_next cd_law_next ct_law_next), sl_law_next⟩)
    (c_law_next : PySem.W.codeIn K cd_law_next "_law_next" = true)
    (k_law_next : PySem.W.keepIn K (.ref f_law_next) = true)
    (b_bool : PySem.W.nsIn K mainGlobals "bool" = some none)
    (b_int : PySem.W.nsIn K mainGlobals "int" = some none)
    (b_isinstance : PySem.W.nsIn K mainGlobals "isinstance" = some none)
    (b_len : PySem.W.nsIn K mainGlobals "len" = some none)
    (b_list : PySem.W.nsIn K mainGlobals "list" = some none)
    (b_max : PySem.W.nsIn K mainGlobals "max" = some none)
    (b_min : PySem.W.nsIn K mainGlobals "min" = some none)
    (b_range : PySem.W.nsIn K mainGlobals "range" = some none)
    (b_sum : PySem.W.nsIn K mainGlobals "sum" = some none)
    (b_tuple : PySem.W.nsIn K mainGlobals "tuple" = some none)
    (v_LEAST_HEAPS : ∃ t, mg "LEAST_HEAPS" = some (.int 2 t))
    (v_MOST_HEAPS : ∃ t, mg "MOST_HEAPS" = some (.int 6 t))
    (v_MOST_IN_HEAP : ∃ t, mg "MOST_IN_HEAP" = some (.int 1000000000000000000000000000000 t))
    (v_MOST_SUM : ∃ t, mg "MOST_SUM" = some (.int 1000000 t))
    (g_BadHeaps : PySem.W.nsIn K mainGlobals "BadHeaps" = some (some (.ref C_BadHeaps)))
    (kc_BadHeaps : PySem.W.keepIn K (.ref C_BadHeaps) = true)
    (sb_BadHeaps : PySem.W.subIn K (.ref C_BadHeaps) (.type "BaseException") = some true)
    (ty_BadHeaps : PySem.W.typeIn K (.ref C_BadHeaps) = some (.type "type"))
    (g_BadMany : PySem.W.nsIn K mainGlobals "BadMany" = some (some (.ref C_BadMany)))
    (kc_BadMany : PySem.W.keepIn K (.ref C_BadMany) = true)
    (sb_BadMany : PySem.W.subIn K (.ref C_BadMany) (.type "BaseException") = some true)
    (ty_BadMany : PySem.W.typeIn K (.ref C_BadMany) = some (.type "type"))
    (g_TooGreat : PySem.W.nsIn K mainGlobals "TooGreat" = some (some (.ref C_TooGreat)))
    (kc_TooGreat : PySem.W.keepIn K (.ref C_TooGreat) = true)
    (sb_TooGreat : PySem.W.subIn K (.ref C_TooGreat) (.type "BaseException") = some true)
    (ty_TooGreat : PySem.W.typeIn K (.ref C_TooGreat) = some (.type "type"))
    (ex_BadHeaps : PySem.W.excIn K C_BadHeaps [.type "ValueError", .type "Exception", .type "BaseException", .type "object"] "ValueError.__new__" = true)
    (ex_BadMany : PySem.W.excIn K C_BadMany [.type "ValueError", .type "Exception", .type "BaseException", .type "object"] "ValueError.__new__" = true)
    (ex_TooGreat : PySem.W.excIn K C_TooGreat [.type "ValueError", .type "Exception", .type "BaseException", .type "object"] "ValueError.__new__" = true)
    (hd_TooGreat : PySem.W.hasDictIn K C_TooGreat = true)
    (ga_TooGreat : PySem.W.findIn K (.ref C_TooGreat) "__getattribute__" = some (some (.builtin "BaseException.__getattribute__")))
    (gg_TooGreat : PySem.W.findIn K (.ref C_TooGreat) "__getattr__" = some none)
    (su_TooGreat_TooGreat : PySem.W.subIn K (.ref C_TooGreat) (.ref C_TooGreat) = some true)
    : ∃ fd : FuncData, (∀ (s : Shared) (v : Value), BindsTo s fd ⟨[v], []⟩ [("_law_script", v)]) ∧ ∀ base : Heap, K.In base → base.Ns mainGlobals mg → FnOk P w K mg base (L2.CX P w) 7 fa fd ["_law_script"] (spLaw K) := by
  have e := hfa.symm.trans (PySem.W.mg_of X G a_law)
  cases e
  have T : Txt K mg := {
    f_law_power := ⟨_, _, fun_mk (st := top 31) l_law_power c_law_power k_law_power, PySem.W.mg_of X G a_law_power⟩
    f_law_is_least := ⟨_, _, fun_mk (st := top 33) l_law_is_least c_law_is_least k_law_is_least, PySem.W.mg_of X G a_law_is_least⟩
    f_law_heaps := ⟨_, _, fun_mk (st := top 24) l_law_heaps c_law_heaps k_law_heaps, PySem.W.mg_of X G a_law_heaps⟩
    f_law_pair := ⟨_, _, fun_mk (st := top 28) l_law_pair c_law_pair k_law_pair, PySem.W.mg_of X G a_law_pair⟩
    f_law_behind := ⟨_, _, fun_mk (st := top 26) l_law_behind c_law_behind k_law_behind, PySem.W.mg_of X G a_law_behind⟩
    f_law_next_pair := ⟨_, _, fun_mk (st := top 29) l_law_next_pair c_law_next_pair k_law_next_pair, PySem.W.mg_of X G a_law_next_pair⟩
    f_law_ring := ⟨_, _, fun_mk (st := top 32) l_law_ring c_law_ring k_law_ring, PySem.W.mg_of X G a_law_ring⟩
    f_is_integer := ⟨_, _, fun_mk (st := top 9) l_is_integer c_is_integer k_is_integer, PySem.W.mg_of X G a_is_integer⟩
    f_is_from := ⟨_, _, fun_mk (st := top 10) l_is_from c_is_from k_is_from, PySem.W.mg_of X G a_is_from⟩
    f_check_heaps := ⟨_, _, fun_mk (st := top 11) l_check_heaps c_check_heaps k_check_heaps, PySem.W.mg_of X G a_check_heaps⟩
    f_check_two := ⟨_, _, fun_mk (st := top 14) l_check_two c_check_two k_check_two, PySem.W.mg_of X G a_check_two⟩
    f_common := ⟨_, _, fun_mk (st := top 15) l_common c_common k_common, PySem.W.mg_of X G a_common⟩
    f_end_of := ⟨_, _, fun_mk (st := top 17) l_end_of c_end_of k_end_of, PySem.W.mg_of X G a_end_of⟩
    f_tail_and_ring := ⟨_, _, fun_mk (st := top 20) l_tail_and_ring c_tail_and_ring k_tail_and_ring, PySem.W.mg_of X G a_tail_and_ring⟩
    f_law_told := ⟨_, _, fun_mk (st := top 34) l_law_told c_law_told k_law_told, PySem.W.mg_of X G a_law_told⟩
    f_law_walk := ⟨_, _, fun_mk (st := top 30) l_law_walk c_law_walk k_law_walk, PySem.W.mg_of X G a_law_walk⟩
    f_power := ⟨_, _, fun_mk (st := top 16) l_power c_power k_power, PySem.W.mg_of X G a_power⟩
    f_after := ⟨_, _, fun_mk (st := top 18) l_after c_after k_after, PySem.W.mg_of X G a_after⟩
    f_ends_after := ⟨_, _, fun_mk (st := top 19) l_ends_after c_ends_after k_ends_after, PySem.W.mg_of X G a_ends_after⟩
    f_law := ⟨_, _, fun_mk (st := top 35) l_law c_law k_law, PySem.W.mg_of X G a_law⟩
    f_law_mix := ⟨_, _, fun_mk (st := top 22) l_law_mix c_law_mix k_law_mix, PySem.W.mg_of X G a_law_mix⟩
    f_law_next := ⟨_, _, fun_mk (st := top 23) l_law_next c_law_next k_law_next, PySem.W.mg_of X G a_law_next⟩
    b_bool := PySem.W.mg_none_of X G b_bool
    b_int := PySem.W.mg_none_of X G b_int
    b_isinstance := PySem.W.mg_none_of X G b_isinstance
    b_len := PySem.W.mg_none_of X G b_len
    b_list := PySem.W.mg_none_of X G b_list
    b_max := PySem.W.mg_none_of X G b_max
    b_min := PySem.W.mg_none_of X G b_min
    b_range := PySem.W.mg_none_of X G b_range
    b_sum := PySem.W.mg_none_of X G b_sum
    b_tuple := PySem.W.mg_none_of X G b_tuple
    c_LEAST_HEAPS := v_LEAST_HEAPS
    c_MOST_HEAPS := v_MOST_HEAPS
    c_MOST_IN_HEAP := v_MOST_IN_HEAP
    c_MOST_SUM := v_MOST_SUM
    r_BadHeaps := ⟨C_BadHeaps, PySem.W.mg_of X G g_BadHeaps, kc_BadHeaps, ex_BadHeaps, sb_BadHeaps, ty_BadHeaps⟩
    r_BadMany := ⟨C_BadMany, PySem.W.mg_of X G g_BadMany, kc_BadMany, ex_BadMany, sb_BadMany, ty_BadMany⟩
    r_TooGreat := ⟨C_TooGreat, PySem.W.mg_of X G g_TooGreat, kc_TooGreat, ex_TooGreat, sb_TooGreat, ty_TooGreat⟩
    x_TooGreat := ⟨C_TooGreat, PySem.W.mg_of X G g_TooGreat, ⟨fun x b hx A hA => by
      by_cases eTooGreat : x = "TooGreat"
      · subst eTooGreat
        cases hx
        cases hA.symm.trans (PySem.W.mg_of X G g_TooGreat)
        exact PySem.W.exm_ref sb_TooGreat hd_TooGreat ty_TooGreat su_TooGreat_TooGreat
      simp only [m_TooGreat, if_neg eTooGreat] at hx; cases hx⟩, 
      ⟨ga_TooGreat, gg_TooGreat, sb_TooGreat, hd_TooGreat⟩, trivial⟩
  }
  exact ⟨PySem.W.fnOf "law" "law" (defArgs (top 35)) (defBody (top 35)) (defScope (top 35)) .none kV_law dc_law pm_law an_law cd_law ct_law, fun s v => .of_eq rfl, fun base _ _ => ok_law T (fun_mk (st := top 35) l_law c_law k_law)⟩
end Pu
open PySem PySem.W PyProof.Rows
set_option maxRecDepth 100000 in
set_option maxHeartbeats 0 in
theorem PySem.Challenge.cw_heapsdouble_k03_whole_walks_of_two_holds : PySem.Challenge.rw_heapsdouble_k03_whole_walks_of_two.Holds := by
  w_on; o_law; k_head; (case hw => w_witness2)
  k_fill
  refine Pu.law_walk (l := PySem.Challenge.rw_heapsdouble_k03_whole_walks_of_two) (k := 7) rfl rfl ⟨rfl, by decide, by decide⟩ (fun w g Y => PySem.W.kIn_of Y) ?F
  case F =>
    intro w mg fa g KX G LX hmg
    refine' Pu.all_mk KX G hmg ?a_law_power ?l_law_power ?c_law_power ?k_law_power ?a_law_is_least ?l_law_is_least ?c_law_is_least ?k_law_is_least ?a_law_heaps ?l_law_heaps ?c_law_heaps ?k_law_heaps ?a_law_pair ?l_law_pair ?c_law_pair ?k_law_pair ?a_law_behind ?l_law_behind ?c_law_behind ?k_law_behind ?a_law_next_pair ?l_law_next_pair ?c_law_next_pair ?k_law_next_pair ?a_law_ring ?l_law_ring ?c_law_ring ?k_law_ring ?a_is_integer ?l_is_integer ?c_is_integer ?k_is_integer ?a_is_from ?l_is_from ?c_is_from ?k_is_from ?a_check_heaps ?l_check_heaps ?c_check_heaps ?k_check_heaps ?a_check_two ?l_check_two ?c_check_two ?k_check_two ?a_common ?l_common ?c_common ?k_common ?a_end_of ?l_end_of ?c_end_of ?k_end_of ?a_tail_and_ring ?l_tail_and_ring ?c_tail_and_ring ?k_tail_and_ring ?a_law_told ?l_law_told ?c_law_told ?k_law_told ?a_law_walk ?l_law_walk ?c_law_walk ?k_law_walk ?a_power ?l_power ?c_power ?k_power ?a_after ?l_after ?c_after ?k_after ?a_ends_after ?l_ends_after ?c_ends_after ?k_ends_after ?a_law ?l_law ?c_law ?k_law ?a_law_mix ?l_law_mix ?c_law_mix ?k_law_mix ?a_law_next ?l_law_next ?c_law_next ?k_law_next ?b_bool ?b_int ?b_isinstance ?b_len ?b_list ?b_max ?b_min ?b_range ?b_sum ?b_tuple ?v_LEAST_HEAPS ?v_MOST_HEAPS ?v_MOST_IN_HEAP ?v_MOST_SUM ?g_BadHeaps ?kc_BadHeaps ?sb_BadHeaps ?ty_BadHeaps ?g_BadMany ?kc_BadMany ?sb_BadMany ?ty_BadMany ?g_TooGreat ?kc_TooGreat ?sb_TooGreat ?ty_TooGreat ?ex_BadHeaps ?ex_BadMany ?ex_TooGreat ?hd_TooGreat ?ga_TooGreat ?gg_TooGreat ?su_TooGreat_TooGreat
    (case a_law_power => k_is)
    (case l_law_power => k_is)
    (case c_law_power => k_is)
    (case k_law_power => k_is)
    (case a_law_is_least => k_is)
    (case l_law_is_least => k_is)
    (case c_law_is_least => k_is)
    (case k_law_is_least => k_is)
    (case a_law_heaps => k_is)
    (case l_law_heaps => k_is)
    (case c_law_heaps => k_is)
    (case k_law_heaps => k_is)
    (case a_law_pair => k_is)
    (case l_law_pair => k_is)
    (case c_law_pair => k_is)
    (case k_law_pair => k_is)
    (case a_law_behind => k_is)
    (case l_law_behind => k_is)
    (case c_law_behind => k_is)
    (case k_law_behind => k_is)
    (case a_law_next_pair => k_is)
    (case l_law_next_pair => k_is)
    (case c_law_next_pair => k_is)
    (case k_law_next_pair => k_is)
    (case a_law_ring => k_is)
    (case l_law_ring => k_is)
    (case c_law_ring => k_is)
    (case k_law_ring => k_is)
    (case a_is_integer => k_is)
    (case l_is_integer => k_is)
    (case c_is_integer => k_is)
    (case k_is_integer => k_is)
    (case a_is_from => k_is)
    (case l_is_from => k_is)
    (case c_is_from => k_is)
    (case k_is_from => k_is)
    (case a_check_heaps => k_is)
    (case l_check_heaps => k_is)
    (case c_check_heaps => k_is)
    (case k_check_heaps => k_is)
    (case a_check_two => k_is)
    (case l_check_two => k_is)
    (case c_check_two => k_is)
    (case k_check_two => k_is)
    (case a_common => k_is)
    (case l_common => k_is)
    (case c_common => k_is)
    (case k_common => k_is)
    (case a_end_of => k_is)
    (case l_end_of => k_is)
    (case c_end_of => k_is)
    (case k_end_of => k_is)
    (case a_tail_and_ring => k_is)
    (case l_tail_and_ring => k_is)
    (case c_tail_and_ring => k_is)
    (case k_tail_and_ring => k_is)
    (case a_law_told => k_is)
    (case l_law_told => k_is)
    (case c_law_told => k_is)
    (case k_law_told => k_is)
    (case a_law_walk => k_is)
    (case l_law_walk => k_is)
    (case c_law_walk => k_is)
    (case k_law_walk => k_is)
    (case a_power => k_is)
    (case l_power => k_is)
    (case c_power => k_is)
    (case k_power => k_is)
    (case a_after => k_is)
    (case l_after => k_is)
    (case c_after => k_is)
    (case k_after => k_is)
    (case a_ends_after => k_is)
    (case l_ends_after => k_is)
    (case c_ends_after => k_is)
    (case k_ends_after => k_is)
    (case a_law => k_is)
    (case l_law => k_is)
    (case c_law => k_is)
    (case k_law => k_is)
    (case a_law_mix => k_is)
    (case l_law_mix => k_is)
    (case c_law_mix => k_is)
    (case k_law_mix => k_is)
    (case a_law_next => k_is)
    (case l_law_next => k_is)
    (case c_law_next => k_is)
    (case k_law_next => k_is)
    (case b_bool => k_is)
    (case b_int => k_is)
    (case b_isinstance => k_is)
    (case b_len => k_is)
    (case b_list => k_is)
    (case b_max => k_is)
    (case b_min => k_is)
    (case b_range => k_is)
    (case b_sum => k_is)
    (case b_tuple => k_is)
    (case v_LEAST_HEAPS => exact ⟨_, PySem.W.mg_of KX G (by k_is)⟩)
    (case v_MOST_HEAPS => exact ⟨_, PySem.W.mg_of KX G (by k_is)⟩)
    (case v_MOST_IN_HEAP => exact Pu.loose_int LX (by simp))
    (case v_MOST_SUM => exact Pu.loose_int LX (by simp))
    (case g_BadHeaps => k_is)
    (case kc_BadHeaps => k_is)
    (case sb_BadHeaps => k_is)
    (case ty_BadHeaps => k_is)
    (case g_BadMany => k_is)
    (case kc_BadMany => k_is)
    (case sb_BadMany => k_is)
    (case ty_BadMany => k_is)
    (case g_TooGreat => k_is)
    (case kc_TooGreat => k_is)
    (case sb_TooGreat => k_is)
    (case ty_TooGreat => k_is)
    (case ex_BadHeaps => k_exc)
    (case ex_BadMany => k_exc)
    (case ex_TooGreat => k_exc)
    (case hd_TooGreat => k_is)
    (case ga_TooGreat => k_is)
    (case gg_TooGreat => k_is)
    (case su_TooGreat_TooGreat => first | rfl | k_is)


