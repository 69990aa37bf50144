import PyProof.Rows.All
import Wide.All
import OpenK.AllK
import Wide.FinOn
import HandS.ForMost
import HandS.ForExc
import HandS.Wide
import HandS.IsInst
import HandS.Deep
import KE.SortData
import HandS.Lambda
import HandS.TupAny
import HandS.WideMore
import KE.DataMinMax
import HandS.SortInts
import HandS.Flow
import KE.GoesEnum
import KE.KTupSum
import HandS.TryOnly
import HandS.ExcInit
import HandS.ExcField
import HandS.Style
import HandS.Comp
import HandS.ExcIs
import HandS.FStr
import HandS.NoneIn
import KE.KExcIs
import HandS.Conv
import HandS.More
import HandS.SortKw
import HandS.Property
import OpenK.KOps
import HandS.TupLen
import HandS.TupSets
import HandS.ListItems
import HandS.WordsDict
import KE.KDictCopyH
import KE.KDictPairs
import PyProof.TupleOfSeq
import KE.SortKeyHeap
import KE.KLam
import HandS.EndTab
import KE.KNestM
import PySem.Challenge.RW_heapsdouble_k04_whole_plans_that_empty
set_option Elab.async false
set_option linter.all false
set_option maxRecDepth 100000
namespace Pu
open PySem L2

/-! ### data -/
mutual
def flat : PyData → Bool
  | .list _ => false
  | .dict _ => false
  | .tuple xs => flats xs
  | .none => true
  | .bool _ => true
  | .int _ => true
  | .str _ => true
def flats : List PyData → Bool
  | [] => true
  | x :: r => flat x && flats r
end
theorem flats_iff : ∀ {xs : List PyData}, flats xs = true ↔ ∀ x ∈ xs, flat x = true
  | [] => by simp [flats]
  | x :: r => by simp [flats, flats_iff (xs := r)]
def keyD : Key → PyData
  | .inl i => .int i
  | .inr s => .str s

/-! ### heaps: an object less its lock -/
def isDct : HO → Bool
  | .dK _ => true
  | .dT _ => true
  | _ => false
def isTup : HO → Bool
  | .tup _ => true
  | .xd _ => true
  | _ => false
def core : HO → HO
  | .frz o w => if isDct w then w else .frz o w
  | u => u
/-- a code object's table -/
def isTbl : HO → Bool
  | .tbl _ => true
  | _ => false
/-- a table is not looked at -/
def coT : Option HO → Option HO
  | some u => if isTbl u = true then none else some (core u)
  | none => none
def co (H : Hp) : Hp := fun a => coT (H a)
theorem co_non {H : Hp} {a : Addr} (h : H a = none) : co H a = none := by
  unfold co
  rw [h]
  rfl
theorem co_inv {H : Hp} {a : Addr} {u : HO} (h : co H a = some u) : ∃ w, H a = some w ∧ isTbl w = false ∧ core w = u := by
  unfold co at h
  cases e : H a with
  | none => rw [e] at h; cases h
  | some w =>
    rw [e] at h
    have h : (if isTbl w = true then none else some (core w)) = some u := h
    cases t : isTbl w with
    | true => rw [t, if_pos rfl] at h; cases h
    | false =>
      rw [t, if_neg Bool.false_ne_true] at h
      exact ⟨w, rfl, t, Option.some.inj h⟩
theorem co_of {H : Hp} {a : Addr} {u : HO} (h : H a = some u) (n : isTbl u = false := by rfl) : co H a = some (core u) := by
  unfold co
  rw [h]
  show (if isTbl u = true then none else some (core u)) = some (core u)
  rw [n]
  rfl
/-- H' holds at a what H holds there, unless that is a table -/
theorem co_on {H H' : Hp} {a : Addr} {u : HO} (k : ∀ w, H a = some w → isTbl w = false → H' a = some w) (h : co H a = some u) : co H' a = some u := by
  obtain ⟨w, h1, h2, rfl⟩ := co_inv h
  exact co_of (k w h1 h2) h2
theorem core_lst {u : HO} {xs : List V} (h : core u = .lst xs) : u = .lst xs := by
  cases u <;> simp [core] at h ⊢
  · exact h
  · rename_i o w
    cases w <;> simp [isDct] at h
theorem core_tup {u : HO} {xs : List V} (h : core u = .tup xs) : u = .tup xs := by
  cases u <;> simp [core] at h ⊢
  · exact h
  · rename_i o w
    cases w <;> simp [isDct] at h
theorem core_dK {u : HO} {xs : List (Key × V)} (h : core u = .dK xs) : u = .dK xs ∨ ∃ o, u = .frz o (.dK xs) := by
  cases u <;> simp [core] at h ⊢
  · exact h
  · rename_i o w
    cases w <;> simp [isDct] at h ⊢
    exact h
theorem core_dT {u : HO} {xs : List (List Key × V)} (h : core u = .dT xs) : u = .dT xs ∨ ∃ o, u = .frz o (.dT xs) := by
  cases u <;> simp [core] at h ⊢
  · exact h
  · rename_i o w
    cases w <;> simp [isDct] at h ⊢
    exact h
theorem co_lst {H : Hp} {a : Addr} {xs : List V} (h : co H a = some (.lst xs)) : H a = some (.lst xs) := by
  obtain ⟨w, h1, _, h2⟩ := co_inv h
  rw [h1, core_lst h2]
theorem co_tup {H : Hp} {a : Addr} {xs : List V} (h : co H a = some (.tup xs)) : H a = some (.tup xs) := by
  obtain ⟨w, h1, _, h2⟩ := co_inv h
  rw [h1, core_tup h2]
theorem co_xd {H : Hp} {a : Addr} {fs : List (Str × V)} (h : co H a = some (.xd fs)) : H a = some (.xd fs) := by
  obtain ⟨w, h1, _, h2⟩ := co_inv h
  rw [h1]
  cases w with
  | xd gs => simp [core] at h2; rw [h2]
  | frz o' w' => cases w' <;> simp [core, isDct] at h2
  | _ => simp [core] at h2
theorem co_dK {H : Hp} {a : Addr} {xs : List (Key × V)} (h : co H a = some (.dK xs)) : Rd H a (.dK xs) := by
  obtain ⟨w, h1, _, h2⟩ := co_inv h
  rcases core_dK h2 with z | ⟨o, z⟩
  · exact .inl (by rw [h1, z])
  · exact .inr ⟨o, by rw [h1, z]⟩
theorem co_dT {H : Hp} {a : Addr} {xs : List (List Key × V)} (h : co H a = some (.dT xs)) : Rd H a (.dT xs) := by
  obtain ⟨w, h1, _, h2⟩ := co_inv h
  rcases core_dT h2 with z | ⟨o, z⟩
  · exact .inl (by rw [h1, z])
  · exact .inr ⟨o, by rw [h1, z]⟩
theorem co_upd {H : Hp} {a : Addr} {u : HO} (n : isTbl u = false := by rfl) : co (upd H a u) = upd (co H) a (core u) := by
  funext b
  by_cases e : b = a
  · subst e
    rw [upd_same]
    exact co_of upd_same n
  · rw [upd_ne e]
    show coT (upd H a u b) = coT (H b)
    rw [upd_ne e]

theorem co_ne {H : Hp} {a b : Addr} {u : HO} (h : a ≠ b) : co (upd H b u) a = co H a := by
  unfold co
  rw [upd_ne h]

/-! ### tables of code objects -/
class Tbs where
  T : List (Addr × Str)
def TbOk [Tbs] (H : Hp) : Prop := LamX.Tabs Tbs.T H
/-! ### what a value stands for -/
mutual
inductive Rp (G : Hp) : V → PyData → Prop
  | non : Rp G .non .none
  | bl (b : Bool) : Rp G (.bl b) (.bool b)
  | int (i : Int) : Rp G (.int i) (.int i)
  | str (s : Str) : Rp G (.str s) (.str s)
  | lst {a : Addr} {vs : List V} {ds : List PyData} : G a = some (.lst vs) → RpAll G vs ds → Rp G (.ref a) (.list ds)
  | tup {a : Addr} {vs : List V} {ds : List PyData} : G a = some (.tup vs) → RpAll G vs ds → Rp G (.ref a) (.tuple ds)
  | dK {a : Addr} {kvs : List (Key × V)} {es : List (PyData × PyData)} : G a = some (.dK kvs) → RpK G kvs es → Rp G (.ref a) (.dict ((.none, .none) :: es))
  | dT {a : Addr} {kvs : List (List Key × V)} {es : List (PyData × PyData)} : G a = some (.dT kvs) → RpT G kvs es → Rp G (.ref a) (.dict es)
inductive RpAll (G : Hp) : List V → List PyData → Prop
  | nil : RpAll G [] []
  | cons {v : V} {d : PyData} {vs : List V} {ds : List PyData} : Rp G v d → RpAll G vs ds → RpAll G (v :: vs) (d :: ds)
inductive RpK (G : Hp) : List (Key × V) → List (PyData × PyData) → Prop
  | nil : RpK G [] []
  | cons {k : Key} {v : V} {d : PyData} {kvs : List (Key × V)} {es : List (PyData × PyData)} : Rp G v d → RpK G kvs es → RpK G ((k, v) :: kvs) ((keyD k, d) :: es)
inductive RpT (G : Hp) : List (List Key × V) → List (PyData × PyData) → Prop
  | nil : RpT G [] []
  | cons {k : List Key} {v : V} {d : PyData} {kvs : List (List Key × V)} {es : List (PyData × PyData)} : Rp G v d → RpT G kvs es → RpT G ((k, v) :: kvs) ((.tuple (k.map keyD), d) :: es)
end
/-- G' knows all that G knows -/
def Le (G G' : Hp) : Prop := ∀ a u, G a = some u → G' a = some u
theorem Le.refl (G : Hp) : Le G G := fun _ _ h => h
theorem Le.trans {G G' G2 : Hp} (a : Le G G') (b : Le G' G2) : Le G G2 := fun x u h => b x u (a x u h)
theorem Le.co {H H' : Hp} (h : Le H H') : Le (co H) (co H') := fun a u e => co_on (fun w h1 _ => h a w h1) e
def isX : HO → Bool
  | .tbl _ => true
  | .ext _ => true
  | _ => false
theorem TbOk.but [Tbs] {H H' : Hp} (t : TbOk H) (h : ∀ a u, H a = some u → isX u = true → H' a = some u) : TbOk H' := fun p hp => by
  obtain ⟨ps, h1, h2, h3⟩ := t p hp
  refine ⟨ps, h _ _ h1 rfl, h2, fun pos cv hc => ?_⟩
  obtain ⟨c, e1, e2⟩ := h3 pos cv hc
  exact ⟨c, e1, h _ _ e2 rfl⟩
/-- a thing that is no table is written -/
theorem TbOk.upd [Tbs] {H : Hp} {p : Addr} {w u : HO} (t : TbOk H) (e : H p = some w) (n : isX w = false := by rfl) : TbOk (L2.upd H p u) := t.but fun a x h1 h2 => by
  rw [upd_ne (fun z => by rw [z, e] at h1; cases h1; rw [n] at h2; cases h2)]
  exact h1
/-- all but the tables stands as it stood; these are kept well -/
structure Lh [Tbs] (H H' : Hp) : Prop where
  k : ∀ a u, H a = some u → isTbl u = false → H' a = some u
  tb : TbOk H → TbOk H'
theorem Lh.at [Tbs] {H H' : Hp} (h : Lh H H') {a : Addr} {u : HO} (e : H a = some u) (n : isTbl u = false := by rfl) : H' a = some u := h.k a u e n
theorem Lh.refl [Tbs] (H : Hp) : Lh H H := ⟨fun _ _ h _ => h, fun h => h⟩
theorem Lh.trans [Tbs] {H H' H2 : Hp} (a : Lh H H') (b : Lh H' H2) : Lh H H2 := ⟨fun x u h n => b.k x u (a.k x u h n) n, fun h => b.tb (a.tb h)⟩
theorem Lh.co [Tbs] {H H' : Hp} (h : Lh H H') : Le (co H) (co H') := fun a u e => co_on (fun w h1 h2 => h.k a w h1 h2) e
theorem Lh.of [Tbs] {H H' : Hp} (h : ∀ a u, H a = some u → H' a = some u) : Lh H H' := ⟨fun a u e _ => h a u e, fun t => t.ext h⟩
mutual
theorem Rp.mono {G G' : Hp} (h : Le G G') : ∀ {v : V} {d : PyData}, Rp G v d → Rp G' v d
  | _, _, .non => .non
  | _, _, .bl b => .bl b
  | _, _, .int i => .int i
  | _, _, .str s => .str s
  | _, _, .lst e r => .lst (h _ _ e) (RpAll.mono h r)
  | _, _, .tup e r => .tup (h _ _ e) (RpAll.mono h r)
  | _, _, .dK e r => .dK (h _ _ e) (RpK.mono h r)
  | _, _, .dT e r => .dT (h _ _ e) (RpT.mono h r)
theorem RpAll.mono {G G' : Hp} (h : Le G G') : ∀ {vs : List V} {ds : List PyData}, RpAll G vs ds → RpAll G' vs ds
  | _, _, .nil => .nil
  | _, _, .cons a b => .cons (Rp.mono h a) (RpAll.mono h b)
theorem RpK.mono {G G' : Hp} (h : Le G G') : ∀ {vs : List (Key × V)} {ds : List (PyData × PyData)}, RpK G vs ds → RpK G' vs ds
  | _, _, .nil => .nil
  | _, _, .cons a b => .cons (Rp.mono h a) (RpK.mono h b)
theorem RpT.mono {G G' : Hp} (h : Le G G') : ∀ {vs : List (List Key × V)} {ds : List (PyData × PyData)}, RpT G vs ds → RpT G' vs ds
  | _, _, .nil => .nil
  | _, _, .cons a b => .cons (Rp.mono h a) (RpT.mono h b)
end
/-! flat data hangs on tuples alone -/
mutual
theorem Rp.flat {G G' : Hp} (h : ∀ a xs, G a = some (.tup xs) → G' a = some (.tup xs)) : ∀ {v : V} {d : PyData}, Rp G v d → flat d = true → Rp G' v d
  | _, _, .non, _ => .non
  | _, _, .bl b, _ => .bl b
  | _, _, .int i, _ => .int i
  | _, _, .str s, _ => .str s
  | _, _, .lst e r, f => by simp [Pu.flat] at f
  | _, _, .tup e r, f => .tup (h _ _ e) (RpAll.flat h r (by simpa [Pu.flat] using f))
  | _, _, .dK e r, f => by simp [Pu.flat] at f
  | _, _, .dT e r, f => by simp [Pu.flat] at f
theorem RpAll.flat {G G' : Hp} (h : ∀ a xs, G a = some (.tup xs) → G' a = some (.tup xs)) : ∀ {vs : List V} {ds : List PyData}, RpAll G vs ds → flats ds = true → RpAll G' vs ds
  | _, _, .nil, _ => .nil
  | _, _, .cons a b, f => by
    simp only [Pu.flats, Bool.and_eq_true] at f
    exact .cons (Rp.flat h a f.1) (RpAll.flat h b f.2)
end
theorem RpAll.length {G : Hp} : ∀ {vs : List V} {ds : List PyData}, RpAll G vs ds → vs.length = ds.length
  | _, _, .nil => rfl
  | _, _, .cons _ b => by rw [List.length_cons, List.length_cons, b.length]
theorem RpAll.get {G : Hp} : ∀ {vs : List V} {ds : List PyData} {i : Nat} {d : PyData}, RpAll G vs ds → ds[i]? = some d → ∃ v, vs[i]? = some v ∧ Rp G v d
  | _, _, _, _, .nil, h => by simp at h
  | _, _, 0, _, .cons a _, h => by
    have e := Option.some.inj h
    subst e
    exact ⟨_, rfl, a⟩
  | _, _, i + 1, _, .cons _ b, h => b.get (i := i) h
theorem RpAll.getV {G : Hp} : ∀ {vs : List V} {ds : List PyData} {i : Nat} {v : V}, RpAll G vs ds → vs[i]? = some v → ∃ d, ds[i]? = some d ∧ Rp G v d
  | _, _, _, _, .nil, h => by simp at h
  | _, _, 0, _, .cons a _, h => by
    have e := Option.some.inj h
    subst e
    exact ⟨_, rfl, a⟩
  | _, _, i + 1, _, .cons _ b, h => b.getV (i := i) h
theorem RpAll.append {G : Hp} : ∀ {vs ws : List V} {ds es : List PyData}, RpAll G vs ds → RpAll G ws es → RpAll G (vs ++ ws) (ds ++ es)
  | _, _, _, _, .nil, h => h
  | _, _, _, _, .cons a b, h => .cons a (b.append h)
theorem RpAll.set {G : Hp} {v : V} {d : PyData} (r : Rp G v d) : ∀ {vs : List V} {ds : List PyData} (i : Nat), RpAll G vs ds → RpAll G (vs.set i v) (ds.set i d)
  | _, _, _, .nil => .nil
  | _, _, 0, .cons _ b => .cons r b
  | _, _, i + 1, .cons a b => .cons a (RpAll.set r i b)
theorem RpAll.take {G : Hp} : ∀ {vs : List V} {ds : List PyData} (n : Nat), RpAll G vs ds → RpAll G (vs.take n) (ds.take n)
  | _, _, 0, _ => by simpa using RpAll.nil
  | _, _, n + 1, .nil => .nil
  | _, _, n + 1, .cons a b => .cons a (b.take n)
theorem RpAll.drop {G : Hp} : ∀ {vs : List V} {ds : List PyData} (n : Nat), RpAll G vs ds → RpAll G (vs.drop n) (ds.drop n)
  | _, _, 0, h => h
  | _, _, n + 1, .nil => .nil
  | _, _, n + 1, .cons a b => b.drop n
theorem RpAll.dropLast {G : Hp} {vs : List V} {ds : List PyData} (h : RpAll G vs ds) : RpAll G vs.dropLast ds.dropLast := by
  rw [List.dropLast_eq_take, List.dropLast_eq_take, h.length]
  exact h.take _
theorem RpAll.ints {G : Hp} : ∀ {vs : List V} {ns : List Int}, RpAll G vs (ns.map PyData.int) → vs = ns.map V.int
  | _, [], h => by cases h; rfl
  | _, n :: r, h => by
    cases h with
    | cons a b => cases a; rw [b.ints]; rfl
theorem RpAll.of_ints {G : Hp} : ∀ (ns : List Int), RpAll G (ns.map V.int) (ns.map PyData.int)
  | [] => .nil
  | n :: r => .cons (.int n) (RpAll.of_ints r)

/-! ### the slots of a frame -/
inductive Slot where
  /-- nothing is known of it -/
  | un
  /-- data that nobody changes -/
  | im (d : PyData)
  /-- a list of this frame's own, that it may change; a dict likewise -/
  | ol (xs : List PyData) | od (kvs : List (PyData × PyData))
  /-- the source of draws: its list, the list of its cells -/
  | rng (a c : Addr)
  /-- a caught exception: its object, its fields -/
  | ex (a : Addr) (dd : Option Addr) (fs : List (Str × V))
  /-- an object of an own class, its fields -/
  | ob (a dx cls : Addr) (fs : List (Str × PyData))
  /-- data whose lists are all of this frame's own (and are not changed) -/
  | ot (d : PyData)
def isMut : Slot → Bool
  | .rng _ _ => true
  | .ob _ _ _ _ => true
  | _ => false
abbrev Slots := List Slot
abbrev Ow := Addr → Option (Nat × Bool)
def mutO : Option (Nat × Bool) → Bool
  | some (_, b) => b
  | none => false
/-- what stands still: all but the hidden (D0) and the frame's own -/
def vw (D0 : Addr → Bool) (o : Ow) (C : Hp) : Hp := fun a => if (D0 a || (o a).isSome) = true then none else C a
/-- what may be read: all but the hidden and the sources of draws -/
def vt (D0 : Addr → Bool) (o : Ow) (C : Hp) : Hp := fun a => if (D0 a || mutO (o a)) = true then none else C a
theorem vw_le_vt {D0 : Addr → Bool} {o : Ow} {C : Hp} : Le (vw D0 o C) (vt D0 o C) := fun a u h => by
  unfold vw at h
  unfold vt
  split at h
  · cases h
  · rename_i hn
    rw [if_neg]
    · exact h
    · intro z
      apply hn
      rw [Bool.or_eq_true] at z ⊢
      rcases z with z | z
      · exact .inl z
      · refine .inr ?_
        cases e : o a with
        | none => rw [e] at z; cases z
        | some _ => rfl
theorem vt_le {D0 : Addr → Bool} {o : Ow} {C : Hp} : Le (vt D0 o C) C := fun a u h => by
  unfold vt at h
  split at h
  · cases h
  · exact h
theorem vw_le {D0 : Addr → Bool} {o : Ow} {C : Hp} : Le (vw D0 o C) C := vw_le_vt.trans vt_le
theorem vw_at {D0 : Addr → Bool} {o : Ow} {C : Hp} {a : Addr} {u : HO} (h1 : D0 a = false) (h2 : o a = none) (h : C a = some u) : vw D0 o C a = some u := by
  unfold vw
  rw [h1, h2]
  exact h

def tupB : Option HO → Option HO
  | some (.tup xs) => some (.tup xs)
  | _ => none
/-- what slot i may hang on, where all lists are its own -/
def vi (D0 : Addr → Bool) (o : Ow) (C : Hp) (i : Nat) : Hp := fun a => if o a = some (i, false) then C a else tupB (vw D0 o C a)
/-- the fields of an object -/
inductive RpF (G : Hp) : List (Str × V) → List (Str × PyData) → Prop
  | nil : RpF G [] []
  | cons {x : Str} {v : V} {d : PyData} {fs : List (Str × V)} {es : List (Str × PyData)} : Rp G v d → RpF G fs es → RpF G ((x, v) :: fs) ((x, d) :: es)
theorem RpF.mono {G G' : Hp} (h : Le G G') : ∀ {fs : List (Str × V)} {es : List (Str × PyData)}, RpF G fs es → RpF G' fs es
  | _, _, .nil => .nil
  | _, _, .cons a b => .cons (Rp.mono h a) (RpF.mono h b)
/-- a dict's entries; the mark at the head: its keys are ints and texts -/
def DOk (G : Hp) (u : HO) (es : List (PyData × PyData)) : Prop := (∃ kvs es', es = (.none, .none) :: es' ∧ u = .dK kvs ∧ RpK G kvs es') ∨ ∃ kvs, u = .dT kvs ∧ RpT G kvs es
theorem DOk.mono {G G' : Hp} (h : Le G G') {u : HO} {es : List (PyData × PyData)} (d : DOk G u es) : DOk G' u es :=
  d.elim (fun ⟨kvs, es', e, e2, r⟩ => .inl ⟨kvs, es', e, e2, r.mono h⟩) fun ⟨kvs, e, r⟩ => .inr ⟨kvs, e, r.mono h⟩
theorem DOk.rp {G : Hp} {u : HO} {es : List (PyData × PyData)} {a : Addr} (d : DOk G u es) (h : G a = some u) : Rp G (.ref a) (.dict es) := by
  rcases d with ⟨kvs, es', rfl, rfl, r⟩ | ⟨kvs, rfl, r⟩
  · exact .dK h r
  · exact .dT h r
theorem Rp.dok {G : Hp} {v : V} {es : List (PyData × PyData)} (h : Rp G v (.dict es)) : ∃ a u, v = .ref a ∧ G a = some u ∧ DOk G u es := by
  cases h with
  | dK e r => exact ⟨_, _, rfl, e, .inl ⟨_, _, rfl, rfl, r⟩⟩
  | dT e r => exact ⟨_, _, rfl, e, .inr ⟨_, rfl, r⟩⟩
def SlotOk (D0 : Addr → Bool) (C : Hp) (o : Ow) (i : Nat) (x : Option (Option V)) : Slot → Prop
  | .un => True
  | .im d => ∃ v, x = some (some v) ∧ Rp (vw D0 o C) v d
  | .ol xs => ∃ a vs, x = some (some (.ref a)) ∧ o a = some (i, false) ∧ C a = some (.lst vs) ∧ RpAll (vw D0 o C) vs xs
  | .od es => ∃ a u, x = some (some (.ref a)) ∧ o a = some (i, false) ∧ C a = some u ∧ DOk (vw D0 o C) u es
  | .rng a c => ∃ (st ix : Int) (ns : List Int), x = some (some (.ref a)) ∧ o a = some (i, true) ∧ o c = some (i, true) ∧ a ≠ c ∧ C a = some (.lst [.int st, .ref c, .int ix]) ∧ C c = some (.lst (ns.map V.int)) ∧ ns.length ≤ 63
  | .ex a dd fs => x = some (some (.ref a)) ∧ ∀ q, dd = some q → vw D0 o C q = some (.xd fs)
  | .ob a dx cls fs => ∃ vs, x = some (some (.ref a)) ∧ o a = some (i, true) ∧ o dx = some (i, true) ∧ a ≠ dx ∧ C a = some (.ins cls dx vs) ∧ C dx = some (.own a) ∧ RpF (vw D0 o C) vs fs
  | .ot d => ∃ v, x = some (some v) ∧ Rp (vi D0 o C i) v d
theorem tupB_eq {x : Option HO} {u : HO} (h : tupB x = some u) : x = some u ∧ isTup u = true := by
  unfold tupB at h
  split at h
  · cases h; exact ⟨rfl, rfl⟩
  · cases h
theorem vi_move {D0 D0' : Addr → Bool} {C C' : Hp} {o o' : Ow} {i : Nat} (hv : Le (vw D0 o C) (vw D0' o' C')) (ho : ∀ a u, o a = some (i, false) → C a = some u → o' a = some (i, false) ∧ C' a = some u) : Le (vi D0 o C i) (vi D0' o' C' i) := fun a u h => by
  unfold vi at h ⊢
  by_cases e : o a = some (i, false)
  · rw [if_pos e] at h
    obtain ⟨h1, h2⟩ := ho a u e h
    rw [if_pos h1]
    exact h2
  · rw [if_neg e] at h
    obtain ⟨h1, h2⟩ := tupB_eq h
    have h3 := hv a u h1
    have e2 : ¬ o' a = some (i, false) := fun z => by
      unfold vw at h3
      rw [z] at h3
      simp at h3
    rw [if_neg e2, h3]
    rw [h1] at h
    exact h

/-- a slot's fact where what it stands on stands -/
theorem SlotOk.move {D0 D0' : Addr → Bool} {C C' : Hp} {o o' : Ow} {i : Nat} {x : Option (Option V)} {s : Slot} (h : SlotOk D0 C o i x s) (hv : Le (vw D0 o C) (vw D0' o' C'))
    (ho : ∀ a b u, o a = some (i, b) → C a = some u → o' a = some (i, b) ∧ C' a = some u) : SlotOk D0' C' o' i x s := by
  cases s with
  | un => trivial
  | im d => obtain ⟨v, h1, h2⟩ := h; exact ⟨v, h1, h2.mono hv⟩
  | ol xs => obtain ⟨a, vs, h1, h2, h3, h4⟩ := h; exact ⟨a, vs, h1, (ho _ _ _ h2 h3).1, (ho _ _ _ h2 h3).2, h4.mono hv⟩
  | od es =>
    obtain ⟨a, u, h1, h2, h3, h4⟩ := h
    exact ⟨a, u, h1, (ho _ _ _ h2 h3).1, (ho _ _ _ h2 h3).2, h4.mono hv⟩
  | rng a c => obtain ⟨st, ix, ns, h1, h2, h3, h4, h5, h6, h7⟩ := h; exact ⟨st, ix, ns, h1, (ho _ _ _ h2 h5).1, (ho _ _ _ h3 h6).1, h4, (ho _ _ _ h2 h5).2, (ho _ _ _ h3 h6).2, h7⟩
  | ex a dd fs => exact ⟨h.1, fun q hq => hv _ _ (h.2 q hq)⟩
  | ob a dx cls fs => obtain ⟨vs, h1, h2, h3, h4, h5, h6, h7⟩ := h; exact ⟨vs, h1, (ho _ _ _ h2 h5).1, (ho _ _ _ h3 h6).1, h4, (ho _ _ _ h2 h5).2, (ho _ _ _ h3 h6).2, h7.mono hv⟩
  | ot d => obtain ⟨v, h1, h2⟩ := h; exact ⟨v, h1, h2.mono (vi_move hv fun a u => ho a false u)⟩

def isFrz : HO → Bool
  | .frz _ _ => true
  | .ext _ => true
  | _ => false
structure Env [Tbs] (D0 : Addr → Bool) (S : Slots) (σ : St) (H : Hp) (o : Ow) : Prop where
  len : σ.length = S.length
  live : ∀ a p, o a = some p → D0 a = false ∧ ∃ u, co H a = some u ∧ isTup u = false
  dead : ∀ a, D0 a = true → ∃ u, co H a = some u ∧ isTup u = false
  sl : ∀ (i : Nat) (s : Slot), S[i]? = some s → SlotOk D0 (co H) o i (σ[i]?) s
  /-- what is the frame's own is not locked -/
  nf : ∀ a p u, o a = some p → H a = some u → isFrz u = false
  /-- the tables of code objects are kept well -/
  tb : TbOk H

/-- behind an expression: all but the sources of draws stands as it stood -/
def XE (o : Ow) (H H' : Hp) : Prop := ∀ a u, mutO (o a) = false → H a = some u → isTbl u = false → H' a = some u
theorem XE.at {o : Ow} {H H' : Hp} (h : XE o H H') {a : Addr} {u : HO} (m : mutO (o a) = false) (e : H a = some u) (n : isTbl u = false := by rfl) : H' a = some u := h a u m e n
theorem XE.refl (o : Ow) (H : Hp) : XE o H H := fun _ _ _ h _ => h
theorem XE.trans {o : Ow} {H H1 H2 : Hp} (a : XE o H H1) (b : XE o H1 H2) : XE o H H2 := fun x u m h n => b x u m (a x u m h n) n
theorem XE.of [Tbs] {o : Ow} {H H' : Hp} (h : Lh H H') : XE o H H' := fun a u _ e n => h.k a u e n
theorem XE.vt {D0 : Addr → Bool} {o : Ow} {H H' : Hp} (h : XE o H H') : Le (vt D0 o (co H)) (vt D0 o (co H')) := fun a u e => by
  unfold Pu.vt at e ⊢
  split at e
  · cases e
  · rename_i hn
    rw [if_neg hn]
    have hm : mutO (o a) = false := by
      cases q : mutO (o a) with
      | false => rfl
      | true => exact absurd (by rw [q, Bool.or_true]) hn
    exact co_on (fun z q n => h a z hm q n) e
theorem XE.vw {D0 : Addr → Bool} {o : Ow} {H H' : Hp} (h : XE o H H') : Le (vw D0 o (co H)) (vw D0 o (co H')) := fun a u e => by
  unfold Pu.vw at e ⊢
  split at e
  · cases e
  · rename_i hn
    rw [if_neg hn]
    have hm : mutO (o a) = false := by
      cases q : o a with
      | none => rfl
      | some p => exact absurd (by rw [q]; simp) hn
    exact co_on (fun z q n => h a z hm q n) e
/-- behind a statement: what was nobody's stands as it stood -/
def Fr (o : Ow) (H : Hp) (o' : Ow) (H' : Hp) : Prop := ∀ a u, o a = none → H a = some u → isTbl u = false → H' a = some u ∧ o' a = none
theorem Fr.refl (o : Ow) (H : Hp) : Fr o H o H := fun _ _ n h _ => ⟨h, n⟩
theorem Fr.trans {o o1 o2 : Ow} {H H1 H2 : Hp} (a : Fr o H o1 H1) (b : Fr o1 H1 o2 H2) : Fr o H o2 H2 := fun x u n h t => let ⟨h1, n1⟩ := a x u n h t; b x u n1 h1 t
theorem XE.fr {o : Ow} {H H' : Hp} (h : XE o H H') : Fr o H o H' := fun a u n e t => ⟨h a u (by rw [n]; rfl) e t, n⟩
/-- a value stands for d; c: it may be kept (nobody changes what it hangs on) -/
def Val (D0 : Addr → Bool) (o : Ow) (H : Hp) (v : V) (d : PyData) (c : Prop) : Prop := Rp (vt D0 o (co H)) v d ∧ (c → Rp (vw D0 o (co H)) v d)
theorem Val.mono {D0 : Addr → Bool} {o : Ow} {H H' : Hp} {v : V} {d : PyData} {c : Prop} (h : Val D0 o H v d c) (x : XE o H H') : Val D0 o H' v d c := ⟨h.1.mono x.vt, fun hc => (h.2 hc).mono x.vw⟩
theorem Val.of {D0 : Addr → Bool} {o : Ow} {H : Hp} {v : V} {d : PyData} (h : Rp (vw D0 o (co H)) v d) : Val D0 o H v d True := ⟨h.mono vw_le_vt, fun _ => h⟩
theorem Val.imp {D0 : Addr → Bool} {o : Ow} {H : Hp} {v : V} {d : PyData} {c c' : Prop} (h : Val D0 o H v d c) (k : c' → c) : Val D0 o H v d c' := ⟨h.1, fun hc => h.2 (k hc)⟩
/-- flat data may be kept -/
theorem Env.vtw [Tbs] {D0 : Addr → Bool} {S : Slots} {σ : St} {H : Hp} {o : Ow} (E : Env D0 S σ H o) : ∀ a xs, vt D0 o (co H) a = some (.tup xs) → vw D0 o (co H) a = some (.tup xs) := fun a xs e => by
  have e2 := vt_le a _ e
  refine vw_at ?_ ?_ e2
  · cases q : D0 a with
    | false => rfl
    | true =>
      obtain ⟨u, h1, h2⟩ := E.dead a q
      rw [e2] at h1
      cases h1
      cases h2
  · cases q : o a with
    | none => rfl
    | some p =>
      obtain ⟨_, u, h1, h2⟩ := E.live a p q
      rw [e2] at h1
      cases h1
      cases h2
theorem Val.flat [Tbs] {D0 : Addr → Bool} {S : Slots} {σ : St} {H : Hp} {o : Ow} {v : V} {d : PyData} {c : Prop} (E : Env D0 S σ H o) (h : Val D0 o H v d c) : Val D0 o H v d (c ∨ flat d = true) :=
  ⟨h.1, fun z => z.elim h.2 fun f => h.1.flat E.vtw f⟩

/-- what is the frame's own -/
theorem Env.at_ [Tbs] {D0 : Addr → Bool} {S : Slots} {σ : St} {H : Hp} {o : Ow} (E : Env D0 S σ H o) {a : Addr} {p : Nat × Bool} (e : o a = some p) : ∃ u, H a = some u ∧ isFrz u = false := by
  obtain ⟨_, w, h2, _⟩ := E.live a p e
  obtain ⟨u, h3, _, _⟩ := co_inv h2
  exact ⟨u, h3, E.nf a p u e h3⟩
/-- .. and no table -/
theorem Env.nt [Tbs] {D0 : Addr → Bool} {S : Slots} {σ : St} {H : Hp} {o : Ow} (E : Env D0 S σ H o) {a : Addr} {p : Nat × Bool} {u : HO} (e : o a = some p) (h : H a = some u) : isTbl u = false := by
  obtain ⟨_, w, h2, _⟩ := E.live a p e
  obtain ⟨u', h3, h4, _⟩ := co_inv h2
  rw [h] at h3
  cases h3
  exact h4
theorem Env.nx [Tbs] {D0 : Addr → Bool} {S : Slots} {σ : St} {H : Hp} {o : Ow} (E : Env D0 S σ H o) {a : Addr} {p : Nat × Bool} {u : HO} (e : o a = some p) (h : H a = some u) : isX u = false := by
  have h1 := E.nt e h
  have h2 := E.nf a p u e h
  cases u <;> first | rfl | exact h1 | exact h2
/-- an object of the frame's own is written -/
theorem Env.tbU [Tbs] {D0 : Addr → Bool} {S : Slots} {σ : St} {H : Hp} {o : Ow} (E : Env D0 S σ H o) {a : Addr} {p : Nat × Bool} {u : HO} (e : o a = some p) : TbOk (L2.upd H a u) := by
  obtain ⟨w, h, _⟩ := E.at_ e
  exact E.tb.upd h (E.nx e h)
theorem Env.ntD [Tbs] {D0 : Addr → Bool} {S : Slots} {σ : St} {H : Hp} {o : Ow} (E : Env D0 S σ H o) {a : Addr} {u : HO} (e : D0 a = true) (h : H a = some u) : isTbl u = false := by
  obtain ⟨w, h2, _⟩ := E.dead a e
  obtain ⟨u', h3, h4, _⟩ := co_inv h2
  rw [h] at h3
  cases h3
  exact h4
/-- the environment behind an expression that changed no source of draws -/
theorem Env.xe [Tbs] {D0 : Addr → Bool} {S : Slots} {σ : St} {H H' : Hp} {o : Ow} (E : Env D0 S σ H o) (h : Lh H H') : Env D0 S σ H' o := by
  have hc : Le (co H) (co H') := h.co
  have hw : Le (vw D0 o (co H)) (vw D0 o (co H')) := (XE.of h).vw
  refine ⟨E.len, fun a p e => ?_, fun a e => ?_, fun i s e => ?_, fun a p u e h1 => ?_, h.tb E.tb⟩
  · obtain ⟨h1, u, h2, h3⟩ := E.live a p e
    exact ⟨h1, u, hc a u h2, h3⟩
  · obtain ⟨u, h2, h3⟩ := E.dead a e
    exact ⟨u, hc a u h2, h3⟩
  · exact (E.sl i s e).move hw fun a b u _ h => ⟨‹_›, hc a u h⟩
  · obtain ⟨u', h2, h3⟩ := E.at_ e
    rw [h.k a u' h2 (E.nt e h2)] at h1
    cases h1
    exact h3
theorem Lh.new [Tbs] {H : Hp} {p : Addr} {u : HO} (h : H p = none) : Lh H (upd H p u) := Lh.of fun a x e => by
  rw [upd_ne (ne_of_none e h)]
  exact e
/-- a new object's address is nobody's -/
theorem Env.new [Tbs] {D0 : Addr → Bool} {S : Slots} {σ : St} {H : Hp} {o : Ow} {p : Addr} (E : Env D0 S σ H o) (h : H p = none) : D0 p = false ∧ o p = none := by
  have h' : co H p = none := co_non h
  constructor
  · cases q : D0 p with
    | false => rfl
    | true => obtain ⟨u, h1, _⟩ := E.dead p q; rw [h'] at h1; cases h1
  · cases q : o p with
    | none => rfl
    | some r => obtain ⟨_, u, h1, _⟩ := E.live p r q; rw [h'] at h1; cases h1
end Pu

namespace Pu
open PySem L2

/-! ### the judgements -/
/-- an exception: its class, what it carries -/
abbrev XC := Str × List (Str × V)
def XOk (mg : Str → Option Value) (H : Hp) (x : XC) (cls : Value) (d : Option Addr) : Prop := (∃ C, mg x.1 = some (.ref C) ∧ cls = .ref C) ∧ ((x.2 = [] ∧ d = none) ∨ ∃ dd, d = some dd ∧ H dd = some (.xd x.2))
/-- the module's names, what is wanted of an exception -/
structure WM where
  mg : Str → Option Value
  w : WX
abbrev EK := XC → Slots → Prop
abbrev WEx := Slots → (PyData → Prop → Slots → Prop) → EK → Prop
abbrev WLs := Slots → (List PyData → Prop → Slots → Prop) → EK → Prop
abbrev WTx := Slots → (Bool → Slots → Prop) → EK → Prop
/-- the way out by an exception -/
def Xw [Tbs] (W : WM) (D0 : Addr → Bool) (σ : St) (o : Ow) (H : Hp) (B : EK) : Prop :=
  ∀ x S' cls dd H', B x S' → Env D0 S' σ H' o → XE o H H' → XOk W.mg H' x cls dd → W.w cls dd σ H'
theorem Xw.on [Tbs] {W : WM} {D0 : Addr → Bool} {σ : St} {o : Ow} {H H1 : Hp} {B : EK} (h : Xw W D0 σ o H B) (x : XE o H H1) : Xw W D0 σ o H1 B :=
  fun a b c d e f g i j => h a b c d e f g (x.trans i) j
def Vals' (D0 : Addr → Bool) (o : Ow) (H : Hp) (vs : List V) (ds : List PyData) (c : Prop) : Prop := RpAll (vt D0 o (co H)) vs ds ∧ (c → RpAll (vw D0 o (co H)) vs ds)
def Snd [Tbs] (W : WM) (t : TE) (w : WEx) : Prop := ∀ (D0 : Addr → Bool) (S : Slots) (σ : St) (H : Hp) (o : Ow) (A : PyData → Prop → Slots → Prop) (B : EK) (Q : VK), Env D0 S σ H o → w S A B →
  (∀ d c S' v H', A d c S' → Env D0 S' σ H' o → XE o H H' → Val D0 o H' v d c → Q v H') → Xw W D0 σ o H B → t σ H Q
def SndA [Tbs] (W : WM) (t : TA) (n : Nat) (w : WLs) : Prop := ∀ (D0 : Addr → Bool) (S : Slots) (σ : St) (H : Hp) (o : Ow) (A : List PyData → Prop → Slots → Prop) (B : EK) (Q : List V → Hp → Prop), Env D0 S σ H o → w S A B →
  (∀ ds c S' vs H', ds.length = n → A ds c S' → Env D0 S' σ H' o → XE o H H' → Vals' D0 o H' vs ds c → Q vs H') → Xw W D0 σ o H B → t σ H Q
def SndT [Tbs] (W : WM) (t : TT) (w : WTx) : Prop := ∀ (D0 : Addr → Bool) (S : Slots) (σ : St) (H : Hp) (o : Ow) (A : Bool → Slots → Prop) (B : EK) (Q : Bool → Hp → Prop), Env D0 S σ H o → w S A B →
  (∀ b S' H', A b S' → Env D0 S' σ H' o → XE o H H' → Q b H') → Xw W D0 σ o H B → t σ H Q
/-- a new list, that nothing else hangs on -/
def SndO [Tbs] (W : WM) (t : TE) (w : WLs) : Prop := ∀ (D0 : Addr → Bool) (S : Slots) (σ : St) (H : Hp) (o : Ow) (A : List PyData → Prop → Slots → Prop) (B : EK) (Q : VK), Env D0 S σ H o → w S A B →
  (∀ ds c S' vs p H1, A ds c S' → Env D0 S' σ H1 o → XE o H H1 → H1 p = none → Vals' D0 o H1 vs ds c → Q (.ref p) (upd H1 p (.lst vs))) → Xw W D0 σ o H B → t σ H Q
structure SE [Tbs] (X : Cx) (W : WM) (e : Expr) (w : WEx) : Prop where
  ex : ∃ t, PE X e t ∧ Snd W t w
structure SO [Tbs] (X : Cx) (W : WM) (e : Expr) (w : WLs) : Prop where
  ex : ∃ t, PE X e t ∧ SndO W t w
structure ST [Tbs] (X : Cx) (W : WM) (e : Expr) (w : WTx) : Prop where
  ex : ∃ t, PT X e t ∧ SndT W t w
structure SA [Tbs] (X : Cx) (W : WM) (es : List Expr) (w : WLs) : Prop where
  ex : ∃ t, PA X es t ∧ SndA W t es.length w
/-- where one stands -/
structure At (X : Cx) (W : WM) (k : Nat) : Prop where
  room : Room k X.A
  calm : X.calm = true
  tx : Takes X W.w
  mq : W.mg = X.mg
  nd : X.N.Nodup
  po : PassesOwn (model X.prog X.w) X.A X.env X.xe
theorem At.tk {X : Cx} {W : WM} {k : Nat} (a : At X W k) : ∀ σ, PassesAt (L2.CX X.prog X.w) X σ (WE W.w σ) := fun σ => passAt a.tx σ
theorem At.u64 {X : Cx} {W : WM} {k : Nat} (a : At X W k) : X.A.units + 64 < cLine := a.room.units
theorem At.u65 {X : Cx} {W : WM} {k : Nat} (a : At X W k) : X.A.units + 65 < cLine := by have := a.room.un; omega
theorem At.u1 {X : Cx} {W : WM} {k : Nat} (a : At X W k) : X.A.units + 1 < cLine := by have := a.room.un; omega

section
variable {X : Cx} {W : WM} {k : Nat} {pos : Pos}

/-! ### names and constants -/
def wV (i : Nat) : WEx := fun S A _ => match S[i]? with
  | some (.im d) => A d True S
  | some (.ol xs) => A (.list xs) False S
  | some (.od es) => A (.dict es) False S
  | some (.ot d) => A d False S
  | _ => False
def wC (d : PyData) : WEx := fun S A _ => A d True S
theorem vi_vt [Tbs] {D0 : Addr → Bool} {S : Slots} {σ : St} {H : Hp} {o : Ow} (E : Env D0 S σ H o) {i : Nat} : Le (vi D0 o (co H) i) (vt D0 o (co H)) := fun a u e => by
  unfold vi at e
  by_cases q : o a = some (i, false)
  · rw [if_pos q] at e
    unfold vt
    rw [(E.live a _ q).1, q]
    exact e
  · rw [if_neg q] at e
    exact vw_le_vt _ _ (tupB_eq e).1
theorem snd_var [Tbs] {i : Nat} : Snd W (tVar i) (wV i) := by
  intro D0 S σ H o A B Q E hw k kx
  unfold wV at hw
  split at hw
  · rename_i d hs
    obtain ⟨v, h1, h2⟩ := E.sl i _ hs
    exact ⟨v, h1, k _ _ _ v H hw E (XE.refl o H) (Val.of h2)⟩
  · rename_i xs hs
    obtain ⟨a, vs, h1, h2, h3, h4⟩ := E.sl i _ hs
    refine ⟨.ref a, h1, k _ _ _ _ H hw E (XE.refl o H) ⟨.lst ?_ (h4.mono vw_le_vt), fun z => z.elim⟩⟩
    unfold vt
    rw [(E.live a _ h2).1, h2]
    exact h3
  · rename_i es hs
    obtain ⟨a, u, h1, h2, h3, h4⟩ := E.sl i _ hs
    refine ⟨.ref a, h1, k _ _ _ _ H hw E (XE.refl o H) ⟨?_, fun z => z.elim⟩⟩
    have hv : ∀ u, co H a = some u → vt D0 o (co H) a = some u := fun u e => by
      unfold vt
      rw [(E.live a _ h2).1, h2]
      exact e
    exact (h4.mono vw_le_vt).rp (hv _ h3)
  · rename_i d hs
    obtain ⟨v, h1, h2⟩ := E.sl i _ hs
    refine ⟨v, h1, k _ _ _ v H hw E (XE.refl o H) ⟨h2.mono (vi_vt E), fun z => z.elim⟩⟩
  · exact hw.elim
theorem snd_c [Tbs] {v : V} {d : PyData} (h : ∀ G, Rp G v d) : Snd W (tC v) (wC d) := fun D0 S σ H o A B Q E hw k kx => k _ _ _ v H hw E (XE.refl o H) (Val.of (h _))
theorem se_v [Tbs] (i : Nat) {x : Str} {p : Pos} (hN : X.N[i]? = some x := by rfl) (hv : Vis X.env.scope x := by first | exact Or.inl rfl | exact Or.inr (Or.inl rfl) | exact Or.inr (Or.inr rfl)) (hd : (x == ("__debug__" : Str)) = false := by decide)
    (hcd : (x == ("__classdict__" : Str)) = false := by decide) : SE X W (.Name x p) (wV i) := ⟨_, pe_var hN hv hd hcd, snd_var⟩
theorem se_int [Tbs] {i : Int} {j p} : SE X W (.Constant (.int i) j p) (wC (.int i)) := ⟨_, pe_int, snd_c fun _ => .int i⟩
theorem se_bl [Tbs] {b : Bool} {j p} : SE X W (.Constant (.bool b) j p) (wC (.bool b)) := ⟨_, pe_bl, snd_c fun _ => .bl b⟩
theorem se_non [Tbs] {j p} : SE X W (.Constant .none j p) (wC .none) := ⟨_, pe_non, snd_c fun _ => .non⟩
theorem se_str [Tbs] {x : Str} {j p} : SE X W (.Constant (.str x) j p) (wC (.str x)) := ⟨_, pe_str, snd_c fun _ => .str x⟩
/-- a module's number -/
theorem se_gi [Tbs] {x : Str} {i : Int} {t : Tok} {p : Pos} (hm : X.mg x = some (.int i t)) (hg : Gl X x := by rfl) (hd : (x == ("__debug__" : Str)) = false := by decide) : SE X W (.Name x p) (wC (.int i)) := ⟨_, pe_glob hg hm (v := .int i) ⟨t, rfl⟩ hd, snd_c fun _ => .int i⟩

/-! ### operators -/
/-- what an operator makes of two data -/
abbrev R2D := PyData → Prop → PyData → Prop → (PyData → Prop → Prop) → Prop
structure Op2 [Tbs] (X : Cx) (f : Value → Value → Sem Value) (g : R2D) : Prop where
  ex : ∃ r : R2, OpR X f r ∧ ∀ (D0 : Addr → Bool) (S : Slots) (σ : St) (o : Ow) (H : Hp) (x y : V) (dx dy : PyData) (cx cy : Prop) (K : PyData → Prop → Prop) (Q : VK), Env D0 S σ H o → Val D0 o H x dx cx → Val D0 o H y dy cy → g dx cx dy cy K →
    (∀ z dz cz H', K dz cz → Lh H H' → Val D0 o H' z dz cz → Q z H') → r x y H Q
def wOp (g : R2D) (wa wb : WEx) : WEx := fun S A B => wa S (fun x cx S1 => wb S1 (fun y cy S2 => g x cx y cy fun z cz => A z cz S2) B) B
theorem snd_op [Tbs] {g : R2D} {ta tb : TE} {wa wb : WEx} {r : R2} (ha : Snd W ta wa) (hb : Snd W tb wb) (hr : ∀ (D0 : Addr → Bool) (S : Slots) (σ : St) (o : Ow) (H : Hp) (x y : V) (dx dy : PyData) (cx cy : Prop) (K : PyData → Prop → Prop) (Q : VK), Env D0 S σ H o → Val D0 o H x dx cx → Val D0 o H y dy cy → g dx cx dy cy K →
    (∀ z dz cz H', K dz cz → Lh H H' → Val D0 o H' z dz cz → Q z H') → r x y H Q) : Snd W (tOp r ta tb) (wOp g wa wb) := by
  intro D0 S σ H o A B Q E hw k kx
  refine ha D0 S σ H o _ B _ E hw (fun d c S1 v H1 h1 E1 x1 V1 => ?_) kx
  refine hb D0 S1 σ H1 o _ B _ E1 h1 (fun d2 c2 S2 v2 H2 h2 E2 x2 V2 => ?_) (kx.on x1)
  exact hr D0 S2 σ o H2 v v2 d d2 c c2 _ Q E2 (V1.mono x2) V2 h2 fun z dz cz H' hz le V => k dz cz S2 z H' hz (E2.xe le) ((x1.trans x2).trans (XE.of le)) V
theorem se_op [Tbs] {op : Operator} {g : R2D} {a b : Expr} {wa wb : WEx} (ho : Op2 X (binaryOp op) g) (ha : SE X W a wa) (hb : SE X W b wb) : SE X W (.BinOp a op b pos) (wOp g wa wb) := by
  obtain ⟨ta, pa, sa⟩ := ha.ex
  obtain ⟨tb, pb, sb⟩ := hb.ex
  obtain ⟨r, hr, h⟩ := ho.ex
  exact ⟨_, pe_op hr pa pb, snd_op sa sb h⟩
theorem se_cmp [Tbs] {op : CmpOp} {g : R2D} {a b : Expr} {wa wb : WEx} (ho : Op2 X (compareOp op) g) (ha : SE X W a wa) (hb : SE X W b wb) (hm : behindInMarks op b = false := by first | exact nobehind _ (by decide) (by decide) | rfl) : SE X W (.Compare a [op] [b] pos) (wOp g wa wb) := by
  obtain ⟨ta, pa, sa⟩ := ha.ex
  obtain ⟨tb, pb, sb⟩ := hb.ex
  obtain ⟨r, hr, h⟩ := ho.ex
  exact ⟨_, pe_cmpR hr pa pb hm, snd_op sa sb h⟩
def bl? : PyData → (Bool → Prop) → Prop
  | .bool b, K => K b
  | _, _ => False
theorem bl_rp {G : Hp} {v : V} {d : PyData} {K : Bool → Prop} (r : Rp G v d) (h : bl? d K) : ∃ b, v = .bl b ∧ K b := by
  cases r with
  | bl b => exact ⟨b, rfl, h⟩
  | _ => exact h.elim
/-- a op1 b op2 c -/
def wChain (g g' : R2D) (wa wb wc : WEx) : WEx := fun S A B => wa S (fun x cx S1 => wb S1 (fun y cy S2 => g x cx y cy fun z _ => bl? z fun b => if b = true then wc S2 (fun u cu S3 => g' y cy u cu fun z' cz' => A z' cz' S3) B else A (.bool false) True S2) B) B
theorem se_chain [Tbs] {op op' : CmpOp} {g g' : R2D} {a b c : Expr} {wa wb wc : WEx} (ho : Op2 X (compareOp op) g) (ho' : Op2 X (compareOp op') g') (ha : SE X W a wa) (hb : SE X W b wb) (hc : SE X W c wc)
    (hm : lastMarks [op, op'] [b, c] = false := by with_unfolding_all rfl) : SE X W (.Compare a [op, op'] [b, c] pos) (wChain g g' wa wb wc) := by
  obtain ⟨ta, pa, sa⟩ := ha.ex
  obtain ⟨tb, pb, sb⟩ := hb.ex
  obtain ⟨tc, pc, sc⟩ := hc.ex
  obtain ⟨r, hr, h⟩ := ho.ex
  obtain ⟨r', hr', h'⟩ := ho'.ex
  refine ⟨_, pe_chain hr hr' pa pb pc hm, ?_⟩
  intro D0 S σ H o A B Q E hw k kx
  refine sa D0 S σ H o _ B _ E hw (fun d c S1 v H1 h1 E1 x1 V1 => ?_) kx
  refine sb D0 S1 σ H1 o _ B _ E1 h1 (fun d2 c2 S2 v2 H2 h2 E2 x2 V2 => ?_) (kx.on x1)
  refine h D0 S2 σ o H2 v v2 d d2 c c2 _ _ E2 (V1.mono x2) V2 h2 fun z dz cz H3 hz le V => ?_
  have x3 := (x1.trans x2).trans (XE.of le)
  have E3 := E2.xe le
  have V2' := V2.mono (XE.of le)
  obtain ⟨b, rfl, hz⟩ := bl_rp V.1 hz
  refine ⟨b, rfl, ?_⟩
  cases b with
  | true =>
    rw [if_pos rfl] at hz ⊢
    refine sc D0 S2 σ H3 o _ B _ E3 hz (fun d4 c4 S4 v4 H4 h4 E4 x4 V4 => ?_) (kx.on x3)
    exact h' D0 S4 σ o H4 v2 v4 d2 d4 c2 c4 _ Q E4 (V2'.mono x4) V4 h4 fun z' dz' cz' H' hz' le' V' => k dz' cz' S4 z' H' hz' (E4.xe le') ((x3.trans x4).trans (XE.of le')) V'
  | false =>
    rw [if_neg Bool.false_ne_true] at hz ⊢
    exact k _ _ _ _ H3 hz E3 x3 (Val.of (.bl false))

/-- on two ints -/
def gI (C : Int → Int → Prop) (f : Int → Int → PyData) : R2D := fun x _ y _ K => match x, y with
  | .int i, .int j => C i j ∧ K (f i j) True
  | _, _ => False
theorem op2_I [Tbs] {f : Value → Value → Sem Value} {C : Int → Int → Prop} {gv : Int → Int → V} {gd : Int → Int → PyData} (h : OpR X f (rI C gv)) (hg : ∀ i j G, Rp G (gv i j) (gd i j)) : Op2 X f (gI C gd) := by
  refine ⟨_, h, ?_⟩
  intro D0 S σ o H x y dx dy cx cy K Q E Vx Vy hg' k
  unfold gI at hg'
  split at hg'
  · cases Vx.1
    cases Vy.1
    exact ⟨_, _, rfl, rfl, hg'.1, k _ _ _ H hg'.2 (Lh.refl H) (Val.of (hg _ _ _))⟩
  · exact hg'.elim
theorem op2_I0 [Tbs] {f : Value → Value → Sem Value} {gv : Int → Int → V} {gd : Int → Int → PyData} (h : OpR X f (rI0 gv)) (hg : ∀ i j G, Rp G (gv i j) (gd i j)) : Op2 X f (gI (fun _ _ => True) gd) := by
  refine ⟨_, h, ?_⟩
  intro D0 S σ o H x y dx dy cx cy K Q E Vx Vy hg' k
  unfold gI at hg'
  split at hg'
  · cases Vx.1
    cases Vy.1
    exact ⟨_, _, rfl, rfl, k _ _ _ H hg'.2 (Lh.refl H) (Val.of (hg _ _ _))⟩
  · exact hg'.elim
def gSub : R2D := gI (fun _ _ => True) fun i j => .int (i - j)
def gMul : R2D := gI CMulW fun i j => .int (i * j)
def gMulS : R2D := gI CMul fun i j => .int (i * j)
def gDiv : R2D := gI CDivW fun i j => .int (i / j)
def gMod : R2D := gI (fun _ j => j ≠ 0) fun i j => .int (i.fmod j)
def gPow : R2D := gI CPow fun i j => .int (i ^ j.toNat)
def gLt : R2D := gI (fun _ _ => True) fun i j => .bool (decide (i < j))
def gLe : R2D := gI (fun _ _ => True) fun i j => .bool (decide (i ≤ j))
def gGt : R2D := gI (fun _ _ => True) fun i j => .bool (decide (j < i))
def gGe : R2D := gI (fun _ _ => True) fun i j => .bool (decide (j ≤ i))
theorem o_sub [Tbs] : Op2 X (binaryOp .Sub) gSub := op2_I0 op_sub fun _ _ _ => .int _
theorem o_mul [Tbs] : Op2 X (binaryOp .Mult) gMul := op2_I op_mulW fun _ _ _ => .int _
theorem o_mulS [Tbs] : Op2 X (binaryOp .Mult) gMulS := op2_I op_mul fun _ _ _ => .int _
theorem o_div [Tbs] : Op2 X (binaryOp .FloorDiv) gDiv := op2_I op_fdivW fun _ _ _ => .int _
theorem o_mod [Tbs] : Op2 X (binaryOp .Mod) gMod := op2_I op_modN fun _ _ _ => .int _
theorem o_pow [Tbs] : Op2 X (binaryOp .Pow) gPow := op2_I op_pow fun _ _ _ => .int _
theorem o_lt [Tbs] : Op2 X (compareOp .Lt) gLt := op2_I0 op_lt fun _ _ _ => .bl _
theorem o_le [Tbs] : Op2 X (compareOp .LtE) gLe := op2_I0 op_le fun _ _ _ => .bl _
theorem o_gt [Tbs] : Op2 X (compareOp .Gt) gGt := op2_I0 op_gt fun _ _ _ => .bl _
theorem o_ge [Tbs] : Op2 X (compareOp .GtE) gGe := op2_I0 op_ge fun _ _ _ => .bl _

/-! sums: ints, lists, tuples, texts -/
def gAdd : R2D := fun x cx y cy K => match x, y with
  | .int i, .int j => K (.int (i + j)) True
  | .list xs, .list ys => xs.length + ys.length ≤ sizeLine ∧ K (.list (xs ++ ys)) ((cx ∨ flats xs = true) ∧ (cy ∨ flats ys = true))
  | .tuple xs, .tuple ys => xs.length + ys.length ≤ sizeLine ∧ K (.tuple (xs ++ ys)) ((cx ∨ flats xs = true) ∧ (cy ∨ flats ys = true))
  | .str s, .str t => s.length + t.length ≤ sizeLine ∧ K (.str (s ++ t)) True
  | _, _ => False
theorem OpR.or {f : Value → Value → Sem Value} {r1 r2 : R2} (h1 : OpR X f r1) (h2 : OpR X f r2) : OpR X f (fun x y H Q => r1 x y H Q ∨ r2 x y H Q) := by
  intro pins s σ H x y v u Q I rx ry h
  rcases h with h | h
  · exact h1 pins s σ H x y v u Q I rx ry h
  · exact h2 pins s σ H x y v u Q I rx ry h
theorem rp_lst {G : Hp} {v : V} {ds : List PyData} (h : Rp G v (.list ds)) : ∃ a vs, v = .ref a ∧ G a = some (.lst vs) ∧ RpAll G vs ds := by
  cases h with
  | lst e r => exact ⟨_, _, rfl, e, r⟩
theorem rp_tup {G : Hp} {v : V} {ds : List PyData} (h : Rp G v (.tuple ds)) : ∃ a vs, v = .ref a ∧ G a = some (.tup vs) ∧ RpAll G vs ds := by
  cases h with
  | tup e r => exact ⟨_, _, rfl, e, r⟩
/-- a list's items, as they may be kept -/
theorem Val.items [Tbs] {D0 : Addr → Bool} {S : Slots} {σ : St} {H : Hp} {o : Ow} {v : V} {ds : List PyData} {c : Prop} (E : Env D0 S σ H o) (h : Val D0 o H v (.list ds) c) :
    ∃ a vs, v = .ref a ∧ H a = some (.lst vs) ∧ RpAll (vt D0 o (co H)) vs ds ∧ (c ∨ flats ds = true → RpAll (vw D0 o (co H)) vs ds) := by
  obtain ⟨a, vs, rfl, e, r⟩ := rp_lst h.1
  have e' := co_lst (vt_le _ _ e)
  refine ⟨a, vs, rfl, e', r, fun z => ?_⟩
  rcases z with z | z
  · obtain ⟨b, ws, eb, e2, r2⟩ := rp_lst (h.2 z)
    cases eb
    have e3 := co_lst (vw_le _ _ e2)
    rw [e'] at e3
    cases e3
    exact r2
  · exact r.flat E.vtw z
theorem Val.titems [Tbs] {D0 : Addr → Bool} {S : Slots} {σ : St} {H : Hp} {o : Ow} {v : V} {ds : List PyData} {c : Prop} (E : Env D0 S σ H o) (h : Val D0 o H v (.tuple ds) c) :
    ∃ a vs, v = .ref a ∧ H a = some (.tup vs) ∧ RpAll (vt D0 o (co H)) vs ds ∧ (c ∨ flats ds = true → RpAll (vw D0 o (co H)) vs ds) := by
  obtain ⟨a, vs, rfl, e, r⟩ := rp_tup h.1
  have e' := co_tup (vt_le _ _ e)
  refine ⟨a, vs, rfl, e', r, fun z => ?_⟩
  rcases z with z | z
  · obtain ⟨b, ws, eb, e2, r2⟩ := rp_tup (h.2 z)
    cases eb
    have e3 := co_tup (vw_le _ _ e2)
    rw [e'] at e3
    cases e3
    exact r2
  · exact r.flat E.vtw z
theorem vt_new [Tbs] {D0 : Addr → Bool} {S : Slots} {σ : St} {H : Hp} {o : Ow} {p : Addr} {u : HO} (E : Env D0 S σ H o) (h : H p = none) (n : isTbl u = false := by rfl) : vt D0 o (co (upd H p u)) p = some (core u) := by
  unfold vt
  rw [(E.new h).1, (E.new h).2, co_upd n]
  exact upd_same
theorem vw_new [Tbs] {D0 : Addr → Bool} {S : Slots} {σ : St} {H : Hp} {o : Ow} {p : Addr} {u : HO} (E : Env D0 S σ H o) (h : H p = none) (n : isTbl u = false := by rfl) : vw D0 o (co (upd H p u)) p = some (core u) := by
  unfold vw
  rw [(E.new h).1, (E.new h).2, co_upd n]
  exact upd_same
/-- a new list, a new tuple, as a value -/
theorem Val.newL [Tbs] {D0 : Addr → Bool} {S : Slots} {σ : St} {H : Hp} {o : Ow} {p : Addr} {vs : List V} {ds : List PyData} {c : Prop} (E : Env D0 S σ H o) (h : H p = none) (r : Vals' D0 o H vs ds c) : Val D0 o (upd H p (.lst vs)) (.ref p) (.list ds) c :=
  ⟨.lst (vt_new E h) (r.1.mono (XE.of (Lh.new h)).vt), fun hc => .lst (vw_new E h) ((r.2 hc).mono (XE.of (Lh.new h)).vw)⟩
theorem Val.newT [Tbs] {D0 : Addr → Bool} {S : Slots} {σ : St} {H : Hp} {o : Ow} {p : Addr} {vs : List V} {ds : List PyData} {c : Prop} (E : Env D0 S σ H o) (h : H p = none) (r : Vals' D0 o H vs ds c) : Val D0 o (upd H p (.tup vs)) (.ref p) (.tuple ds) c :=
  ⟨.tup (vt_new E h) (r.1.mono (XE.of (Lh.new h)).vt), fun hc => .tup (vw_new E h) ((r.2 hc).mono (XE.of (Lh.new h)).vw)⟩
theorem SqL.at {K : PySem.W.Frag} {H : Hp} {a : Addr} {xs : List V} (h : H a = some (.lst xs)) : SqL K H a xs := .inl (.inl h)
theorem SqT.at {K : PySem.W.Frag} {H : Hp} {a : Addr} {xs : List V} (h : H a = some (.tup xs)) : SqT K H a xs := .inl (.inl h)
theorem o_add [Tbs] : Op2 X (binaryOp .Add) gAdd := by
  refine ⟨_, OpR.or op_add (OpR.or op_cat (OpR.or op_catA op_add_str)), ?_⟩
  intro D0 S σ o H x y dx dy cx cy K Q E Vx Vy hg k
  unfold gAdd at hg
  split at hg
  · cases Vx.1
    cases Vy.1
    exact .inl ⟨_, _, rfl, rfl, k _ _ _ H hg (Lh.refl H) (Val.of (.int _))⟩
  · obtain ⟨a, vs, rfl, ea, ra, ca⟩ := Vx.items E
    obtain ⟨b, ws, rfl, eb, rb, cb⟩ := Vy.items E
    refine .inr (.inl ⟨a, b, vs, ws, rfl, rfl, ea, eb, by rw [ra.length, rb.length]; exact hg.1, fun p hp => ?_⟩)
    exact k _ _ _ _ hg.2 (Lh.new hp) (Val.newL E hp ⟨ra.append rb, fun z => (ca z.1).append (cb z.2)⟩)
  · obtain ⟨a, vs, rfl, ea, ra, ca⟩ := Vx.titems E
    obtain ⟨b, ws, rfl, eb, rb, cb⟩ := Vy.titems E
    refine .inr (.inr (.inl ⟨a, b, vs, ws, rfl, rfl, SqT.at ea, SqT.at eb, by rw [ra.length, rb.length]; exact hg.1, fun z => ?_, fun _ z => ?_, fun _ _ p hp => ?_⟩))
    · subst z
      cases ra
      refine k _ _ _ H hg.2 (Lh.refl H) ?_
      rw [List.nil_append]
      refine ⟨Vy.1, fun z => ?_⟩
      obtain ⟨b', ws', e1, e2, r2⟩ := rp_tup Vy.1
      cases e1
      exact .tup (E.vtw _ _ e2) (by
        have e3 := co_tup (vt_le _ _ e2)
        rw [eb] at e3
        cases e3
        exact cb z.2)
    · subst z
      cases rb
      refine k _ _ _ H hg.2 (Lh.refl H) ?_
      rw [List.append_nil]
      refine ⟨Vx.1, fun z => ?_⟩
      obtain ⟨b', ws', e1, e2, r2⟩ := rp_tup Vx.1
      cases e1
      exact .tup (E.vtw _ _ e2) (by
        have e3 := co_tup (vt_le _ _ e2)
        rw [ea] at e3
        cases e3
        exact ca z.1)
    · exact k _ _ _ _ hg.2 (Lh.new hp) (Val.newT E hp ⟨ra.append rb, fun z => (ca z.1).append (cb z.2)⟩)
  · cases Vx.1
    cases Vy.1
    exact .inr (.inr (.inr ⟨_, _, rfl, rfl, hg.1, k _ _ _ H hg.2 (Lh.refl H) (Val.of (.str _))⟩))
  · exact hg.elim

/-! comparisons of data -/
mutual
theorem Rp.dp {K : PySem.W.Frag} {H : Hp} : ∀ {v : V} {d : PyData}, Rp (co H) v d → d.canLay0 = true → Dp K H v d
  | _, _, .non, _ => .non
  | _, _, .bl b, _ => .bl b
  | _, _, .int i, _ => .int i
  | _, _, .str s, _ => .str s
  | _, _, .lst e r, h => .lst (SqL.at (co_lst e)) (RpAll.dp r (by simpa [PyData.canLay0] using h))
  | _, _, .tup e r, h => .tup (SqT.at (co_tup e)) (RpAll.dp r (by simpa [PyData.canLay0] using h))
  | _, _, .dK e r, h => by simp [PyData.canLay0] at h
  | _, _, .dT e r, h => by simp [PyData.canLay0] at h
theorem RpAll.dp {K : PySem.W.Frag} {H : Hp} : ∀ {vs : List V} {ds : List PyData}, RpAll (co H) vs ds → PyData.canLayAll0 ds = true → DpAll K H vs ds
  | _, _, .nil, _ => .nil
  | _, _, .cons a b, h => by
    simp only [PyData.canLayAll0, Bool.and_eq_true] at h
    exact .cons (Rp.dp a h.1) (RpAll.dp b h.2)
end
theorem Val.dp {K : PySem.W.Frag} {D0 : Addr → Bool} {o : Ow} {H : Hp} {v : V} {d : PyData} {c : Prop} (h : Val D0 o H v d c) (s : SeqAt.shaped d = true) : Dp K H v d :=
  (h.1.mono vt_le).dp (SeqAt.canLay_of_shaped s)
def gEq : R2D := fun x _ y _ K => SeqAt.shaped x = true ∧ SeqAt.shaped y = true ∧ K (.bool (PyData.eqv x y)) True
def gNe : R2D := fun x _ y _ K => SeqAt.shaped x = true ∧ SeqAt.shaped y = true ∧ K (.bool (!PyData.eqv x y)) True
def gIn : R2D := fun x _ y _ K => match y with
  | .list ys => SeqAt.shaped x = true ∧ SeqAt.shaped (.list ys) = true ∧ K (.bool (ys.any fun z => PyData.eqv z x)) True
  | _ => False
def gNotIn : R2D := fun x _ y _ K => match y with
  | .list ys => SeqAt.shaped x = true ∧ SeqAt.shaped (.list ys) = true ∧ K (.bool (!ys.any fun z => PyData.eqv z x)) True
  | _ => False
def gIs : R2D := fun x _ y _ K => match x, y with
  | .none, .none => K (.bool true) True
  | _, .none => K (.bool false) True
  | _, _ => False
def gIsNot : R2D := fun x _ y _ K => match x, y with
  | .none, .none => K (.bool false) True
  | _, .none => K (.bool true) True
  | _, _ => False
theorem o_eq [Tbs] (a : At X W k) : Op2 X (compareOp .Eq) gEq :=
  ⟨_, op_eqD a.u64, fun D0 S σ o H x y dx dy cx cy K Q E Vx Vy hg k => ⟨dx, dy, Vx.dp hg.1, Vy.dp hg.2.1, hg.1, hg.2.1, k _ _ _ H hg.2.2 (Lh.refl H) (Val.of (.bl _))⟩⟩
theorem o_ne [Tbs] (a : At X W k) : Op2 X (compareOp .NotEq) gNe :=
  ⟨_, op_neD a.u64, fun D0 S σ o H x y dx dy cx cy K Q E Vx Vy hg k => ⟨dx, dy, Vx.dp hg.1, Vy.dp hg.2.1, hg.1, hg.2.1, k _ _ _ H hg.2.2 (Lh.refl H) (Val.of (.bl _))⟩⟩
theorem o_in [Tbs] (a : At X W k) : Op2 X (compareOp .In) gIn :=
  ⟨_, op_inD a.u65, fun D0 S σ o H x y dx dy cx cy K Q E Vx Vy hg k => by
    unfold gIn at hg
    split at hg
    · exact ⟨dx, _, Vx.dp hg.1, Vy.dp hg.2.1, hg.1, hg.2.1, k _ _ _ H hg.2.2 (Lh.refl H) (Val.of (.bl _))⟩
    · exact hg.elim⟩
theorem o_notIn [Tbs] (a : At X W k) : Op2 X (compareOp .NotIn) gNotIn :=
  ⟨_, op_notInD a.u65, fun D0 S σ o H x y dx dy cx cy K Q E Vx Vy hg k => by
    unfold gNotIn at hg
    split at hg
    · exact ⟨dx, _, Vx.dp hg.1, Vy.dp hg.2.1, hg.1, hg.2.1, k _ _ _ H hg.2.2 (Lh.refl H) (Val.of (.bl _))⟩
    · exact hg.elim⟩
theorem rp_none {G : Hp} {x : V} {d : PyData} (r : Rp G x d) : x = .non ↔ d = .none := by cases r <;> simp
theorem o_is [Tbs] : Op2 X (compareOp .Is) gIs :=
  ⟨_, op_isN, fun D0 S σ o H x y dx dy cx cy K Q E Vx Vy hg k => by
    unfold gIs at hg
    split at hg
    · cases Vx.1; cases Vy.1
      exact ⟨rfl, k _ _ _ H hg (Lh.refl H) (Val.of (.bl _))⟩
    · rename_i hn
      cases Vy.1
      refine ⟨rfl, ?_⟩
      rw [decide_eq_false (fun z => hn ((rp_none Vx.1).mp z))]
      exact k _ _ _ H hg (Lh.refl H) (Val.of (.bl _))
    · exact hg.elim⟩
theorem o_isNot [Tbs] : Op2 X (compareOp .IsNot) gIsNot :=
  ⟨_, op_notN, fun D0 S σ o H x y dx dy cx cy K Q E Vx Vy hg k => by
    unfold gIsNot at hg
    split at hg
    · cases Vx.1; cases Vy.1
      exact ⟨rfl, k _ _ _ H hg (Lh.refl H) (Val.of (.bl _))⟩
    · rename_i hn
      cases Vy.1
      refine ⟨rfl, ?_⟩
      rw [decide_eq_false (fun z => hn ((rp_none Vx.1).mp z))]
      exact k _ _ _ H hg (Lh.refl H) (Val.of (.bl _))
    · exact hg.elim⟩

/-! ### and, or, not; tests -/
def wNot (wa : WEx) : WEx := fun S A B => wa S (fun d _ S1 => bl? d fun b => A (.bool (!b)) True S1) B
def wAnd (wa wb : WEx) : WEx := fun S A B => wa S (fun d _ S1 => bl? d fun b => if b = true then wb S1 A B else A (.bool false) True S1) B
def wOr (wa wb : WEx) : WEx := fun S A B => wa S (fun d _ S1 => bl? d fun b => if b = true then A (.bool true) True S1 else wb S1 A B) B
theorem se_not [Tbs] {a : Expr} {wa : WEx} (ha : SE X W a wa) : SE X W (.UnaryOp .Not a pos) (wNot wa) := by
  obtain ⟨ta, pa, sa⟩ := ha.ex
  refine ⟨_, pe_not pa, ?_⟩
  intro D0 S σ H o A B Q E hw k kx
  refine sa D0 S σ H o _ B _ E hw (fun d c S1 v H1 h1 E1 x1 V1 => ?_) kx
  obtain ⟨b, rfl, h⟩ := bl_rp V1.1 h1
  exact ⟨b, rfl, k _ _ _ _ H1 h E1 x1 (Val.of (.bl _))⟩
theorem se_one [Tbs] {op : BoolOp} {a : Expr} {wa : WEx} (ha : SE X W a wa) : SE X W (.BoolOp op [a] pos) wa := by
  obtain ⟨ta, pa, sa⟩ := ha.ex
  exact ⟨_, pe_one pa, sa⟩
theorem se_and [Tbs] {a b : Expr} {rest : List Expr} {wa wb : WEx} (ha : SE X W a wa) (hb : SE X W (.BoolOp .And (b :: rest) pos) wb) : SE X W (.BoolOp .And (a :: b :: rest) pos) (wAnd wa wb) := by
  obtain ⟨ta, pa, sa⟩ := ha.ex
  obtain ⟨tb, pb, sb⟩ := hb.ex
  refine ⟨_, pe_and pa pb, ?_⟩
  intro D0 S σ H o A B Q E hw k kx
  refine sa D0 S σ H o _ B _ E hw (fun d c S1 v H1 h1 E1 x1 V1 => ?_) kx
  obtain ⟨b, rfl, h⟩ := bl_rp V1.1 h1
  refine ⟨b, rfl, ?_⟩
  cases b with
  | true => exact sb D0 S1 σ H1 o A B Q E1 h (fun d c S2 v H2 h2 E2 x2 V2 => k d c S2 v H2 h2 E2 (x1.trans x2) V2) (kx.on x1)
  | false => exact k _ _ _ _ H1 h E1 x1 (Val.of (.bl _))
theorem se_or [Tbs] {a b : Expr} {rest : List Expr} {wa wb : WEx} (ha : SE X W a wa) (hb : SE X W (.BoolOp .Or (b :: rest) pos) wb) : SE X W (.BoolOp .Or (a :: b :: rest) pos) (wOr wa wb) := by
  obtain ⟨ta, pa, sa⟩ := ha.ex
  obtain ⟨tb, pb, sb⟩ := hb.ex
  refine ⟨_, pe_or pa pb, ?_⟩
  intro D0 S σ H o A B Q E hw k kx
  refine sa D0 S σ H o _ B _ E hw (fun d c S1 v H1 h1 E1 x1 V1 => ?_) kx
  obtain ⟨b, rfl, h⟩ := bl_rp V1.1 h1
  refine ⟨b, rfl, ?_⟩
  cases b with
  | true => exact k _ _ _ _ H1 h E1 x1 (Val.of (.bl _))
  | false => exact sb D0 S1 σ H1 o A B Q E1 h (fun d c S2 v H2 h2 E2 x2 V2 => k d c S2 v H2 h2 E2 (x1.trans x2) V2) (kx.on x1)
/-- tests -/
def wB (wa : WEx) : WTx := fun S A B => wa S (fun d _ S1 => bl? d fun b => A b S1) B
def wTNot (wt : WTx) : WTx := fun S A B => wt S (fun b S1 => A (!b) S1) B
def wTAnd (wa wb : WTx) : WTx := fun S A B => wa S (fun b S1 => if b = true then wb S1 A B else A false S1) B
def wTOr (wa wb : WTx) : WTx := fun S A B => wa S (fun b S1 => if b = true then A true S1 else wb S1 A B) B
/-- a list, a tuple, an int by truth -/
def wTru (wa : WEx) : WTx := fun S A B => wa S (fun d _ S1 => match d with
  | .list xs => A (!xs.isEmpty) S1
  | .tuple xs => A (!xs.isEmpty) S1
  | .int i => A (i != 0) S1
  | .bool b => A b S1
  | _ => False) B
theorem st_b [Tbs] {a : Expr} {wa : WEx} (ha : SE X W a wa) (he : ∀ whole, isTrue a X.env whole = (do let v ← whole; standAt a.pos; holding [v] (truthy v)) := by intro _; rfl) : ST X W a (wB wa) := by
  obtain ⟨ta, pa, sa⟩ := ha.ex
  refine ⟨_, pt_val pa he, ?_⟩
  intro D0 S σ H o A B Q E hw k kx
  refine sa D0 S σ H o _ B _ E hw (fun d c S1 v H1 h1 E1 x1 V1 => ?_) kx
  obtain ⟨b, rfl, h⟩ := bl_rp V1.1 h1
  exact ⟨b, rfl, k b S1 H1 h E1 x1⟩
theorem rp_isEmpty {G : Hp} {vs : List V} {ds : List PyData} (r : RpAll G vs ds) : vs.isEmpty = ds.isEmpty := by cases r <;> rfl
theorem st_tru [Tbs] {a : Expr} {wa : WEx} (ha : SE X W a wa) (he : ∀ whole, isTrue a X.env whole = (do let v ← whole; standAt a.pos; holding [v] (truthy v)) := by intro _; rfl) : ST X W a (wTru wa) := by
  obtain ⟨ta, pa, sa⟩ := ha.ex
  refine ⟨_, pt_truth pa he, ?_⟩
  intro D0 S σ H o A B Q E hw k kx
  refine sa D0 S σ H o _ B _ E hw (fun d c S1 v H1 h1 E1 x1 V1 => ?_) kx
  split at h1
  · obtain ⟨a, vs, rfl, e, r, _⟩ := V1.items E1
    exact ⟨_, .inl ⟨vs, SqL.at e, rfl⟩, k _ S1 H1 (by rw [rp_isEmpty r]; exact h1) E1 x1⟩
  · obtain ⟨a, vs, rfl, e, r, _⟩ := V1.titems E1
    exact ⟨_, .inr (.inl ⟨vs, SqT.at e, rfl⟩), k _ S1 H1 (by rw [rp_isEmpty r]; exact h1) E1 x1⟩
  · cases V1.1
    exact ⟨_, rfl, k _ S1 H1 h1 E1 x1⟩
  · cases V1.1
    exact ⟨_, rfl, k _ S1 H1 h1 E1 x1⟩
  · exact h1.elim
theorem st_not [Tbs] {a : Expr} {wa : WTx} (ha : ST X W a wa) : ST X W (.UnaryOp .Not a pos) (wTNot wa) := by
  obtain ⟨ta, pa, sa⟩ := ha.ex
  exact ⟨_, pt_not pa, fun D0 S σ H o A B Q E hw k kx => sa D0 S σ H o _ B _ E hw (fun b S1 H1 h1 E1 x1 => k (!b) S1 H1 h1 E1 x1) kx⟩
structure SW [Tbs] (X : Cx) (W : WM) (e : Expr) (w : WTx) : Prop where
  ex : ∃ t, PW X e t ∧ SndT W t w
theorem st_w [Tbs] {a : Expr} {wa : WTx} (ha : SW X W a wa) : ST X W a wa := by
  obtain ⟨ta, pa, sa⟩ := ha.ex
  exact ⟨_, pa.pt, sa⟩
theorem sw_and1 [Tbs] {a : Expr} {wa : WTx} (ha : ST X W a wa) : SW X W (.BoolOp .And [a] pos) wa := by
  obtain ⟨ta, pa, sa⟩ := ha.ex
  exact ⟨_, pw_and1 pa, sa⟩
theorem sw_or1 [Tbs] {a : Expr} {wa : WTx} (ha : ST X W a wa) : SW X W (.BoolOp .Or [a] pos) wa := by
  obtain ⟨ta, pa, sa⟩ := ha.ex
  exact ⟨_, pw_or1 pa, sa⟩
theorem sw_and [Tbs] {a b : Expr} {rest : List Expr} {wa wb : WTx} (ha : ST X W a wa) (hb : SW X W (.BoolOp .And (b :: rest) pos) wb) : SW X W (.BoolOp .And (a :: b :: rest) pos) (wTAnd wa wb) := by
  obtain ⟨ta, pa, sa⟩ := ha.ex
  obtain ⟨tb, pb, sb⟩ := hb.ex
  refine ⟨_, pw_and pa pb, ?_⟩
  intro D0 S σ H o A B Q E hw k kx
  refine sa D0 S σ H o _ B _ E hw (fun b S1 H1 h1 E1 x1 => ?_) kx
  cases b with
  | true => exact sb D0 S1 σ H1 o A B Q E1 h1 (fun d S2 H2 h2 E2 x2 => k d S2 H2 h2 E2 (x1.trans x2)) (kx.on x1)
  | false => exact k _ _ H1 h1 E1 x1
theorem sw_or [Tbs] {a b : Expr} {rest : List Expr} {wa wb : WTx} (ha : ST X W a wa) (hb : SW X W (.BoolOp .Or (b :: rest) pos) wb) : SW X W (.BoolOp .Or (a :: b :: rest) pos) (wTOr wa wb) := by
  obtain ⟨ta, pa, sa⟩ := ha.ex
  obtain ⟨tb, pb, sb⟩ := hb.ex
  refine ⟨_, pw_or pa pb, ?_⟩
  intro D0 S σ H o A B Q E hw k kx
  refine sa D0 S σ H o _ B _ E hw (fun b S1 H1 h1 E1 x1 => ?_) kx
  cases b with
  | true => exact k _ _ H1 h1 E1 x1
  | false => exact sb D0 S1 σ H1 o A B Q E1 h1 (fun d S2 H2 h2 E2 x2 => k d S2 H2 h2 E2 (x1.trans x2)) (kx.on x1)
def wIf (wt : WTx) (wa wb : WEx) : WEx := fun S A B => wt S (fun b S1 => if b = true then wa S1 A B else wb S1 A B) B
theorem se_if [Tbs] {c a b : Expr} {wt : WTx} {wa wb : WEx} (hc : ST X W c wt) (ha : SE X W a wa) (hb : SE X W b wb) : SE X W (.IfExp c a b pos) (wIf wt wa wb) := by
  obtain ⟨tc, pc, sc⟩ := hc.ex
  obtain ⟨ta, pa, sa⟩ := ha.ex
  obtain ⟨tb, pb, sb⟩ := hb.ex
  refine ⟨_, pe_ifExp pc pa pb, ?_⟩
  intro D0 S σ H o A B Q E hw k kx
  refine sc D0 S σ H o _ B _ E hw (fun b S1 H1 h1 E1 x1 => ?_) kx
  cases b with
  | true => exact sa D0 S1 σ H1 o A B Q E1 h1 (fun d c S2 v H2 h2 E2 x2 V2 => k d c S2 v H2 h2 E2 (x1.trans x2) V2) (kx.on x1)
  | false => exact sb D0 S1 σ H1 o A B Q E1 h1 (fun d c S2 v H2 h2 E2 x2 V2 => k d c S2 v H2 h2 E2 (x1.trans x2) V2) (kx.on x1)

/-! ### argument lists, displays -/
def wNil : WLs := fun S A _ => A [] True S
def wCons (we : WEx) (wr : WLs) : WLs := fun S A B => we S (fun d c S1 => wr S1 (fun ds c' S2 => A (d :: ds) ((c ∨ flat d = true) ∧ c') S2) B) B
theorem sa_nil [Tbs] : SA X W [] wNil := ⟨_, pa_nil, fun D0 S σ H o A B Q E hw k kx => k _ _ _ _ H rfl hw E (XE.refl o H) ⟨.nil, fun _ => .nil⟩⟩
theorem sa_cons [Tbs] {e : Expr} {es : List Expr} {we : WEx} {wr : WLs} (he : SE X W e we) (hr : SA X W es wr) (hs : starEach (e :: es) X.env = (false, eval e X.env) :: starEach es X.env := by rfl) : SA X W (e :: es) (wCons we wr) := by
  obtain ⟨te, pe, se⟩ := he.ex
  obtain ⟨tr, pr, sr⟩ := hr.ex
  refine ⟨_, pa_cons pe pr hs, ?_⟩
  intro D0 S σ H o A B Q E hw k kx
  refine se D0 S σ H o _ B _ E hw (fun d c S1 v H1 h1 E1 x1 V1 => ?_) kx
  refine sr D0 S1 σ H1 o _ B _ E1 h1 (fun ds c2 S2 vs H2 hl h2 E2 x2 V2 => ?_) (kx.on x1)
  have V1' := (V1.mono x2).flat E2
  exact k _ _ S2 _ H2 (by rw [List.length_cons, List.length_cons, hl]) h2 E2 (x1.trans x2) ⟨.cons V1'.1 V2.1, fun z => .cons (V1'.2 z.1) (V2.2 z.2)⟩
def wTup (wa : WLs) : WEx := fun S A B => wa S (fun ds c S1 => ds.length ≤ sizeLine ∧ A (.tuple ds) c S1) B
def wLst (wa : WLs) : WLs := fun S A B => wa S (fun ds c S1 => ds.length ≤ sizeLine ∧ A ds c S1) B
def wO (wa : WLs) : WEx := fun S A B => wa S (fun ds c S1 => A (.list ds) c S1) B
theorem se_tup [Tbs] {es : List Expr} {wa : WLs} {x1} (h : SA X W es wa) : SE X W (.Tuple es x1 pos) (wTup wa) := by
  obtain ⟨ta, pa, sa⟩ := h.ex
  refine ⟨_, pe_tup pa, ?_⟩
  intro D0 S σ H o A B Q E hw k kx
  refine sa D0 S σ H o _ B _ E hw (fun ds c S1 vs H1 hl h1 E1 x1 V1 => ?_) kx
  exact ⟨by rw [V1.1.length]; exact h1.1, fun p hp => k _ _ S1 _ _ h1.2 (E1.xe (Lh.new hp)) (x1.trans (XE.of (Lh.new hp))) (Val.newT E1 hp V1)⟩
theorem so_lst [Tbs] {es : List Expr} {wa : WLs} (h : SA X W es wa) : SO X W (.List es pos) (wLst wa) := by
  obtain ⟨ta, pa, sa⟩ := h.ex
  refine ⟨_, pe_lst pa, ?_⟩
  intro D0 S σ H o A B Q E hw k kx
  refine sa D0 S σ H o _ B _ E hw (fun ds c S1 vs H1 hl h1 E1 x1 V1 => ?_) kx
  exact ⟨by rw [V1.1.length]; exact h1.1, fun p hp => k _ _ S1 _ p H1 h1.2 E1 x1 hp V1⟩
theorem se_o [Tbs] {e : Expr} {wa : WLs} (h : SO X W e wa) : SE X W e (wO wa) := by
  obtain ⟨ta, pa, sa⟩ := h.ex
  refine ⟨_, pa, ?_⟩
  intro D0 S σ H o A B Q E hw k kx
  exact sa D0 S σ H o _ B _ E hw (fun ds c S1 vs p H1 h1 E1 x1 hp V1 => k _ _ S1 _ _ h1 (E1.xe (Lh.new hp)) (x1.trans (XE.of (Lh.new hp))) (Val.newL E1 hp V1)) kx
end
end Pu

namespace Pu
open PySem L2
section
variable {X : Cx} {W : WM} {k : Nat} {pos : Pos}

/-! ### built-in functions by name -/
abbrev RD := List PyData → Prop → (PyData → Prop → Prop) → Prop
structure Fn [Tbs] (X : Cx) (f : Value) (g : RD) : Prop where
  ex : ∃ r, CallR X f r ∧ ∀ (D0 : Addr → Bool) (S : Slots) (σ : St) (o : Ow) (H : Hp) (vs : List V) (ds : List PyData) (c : Prop) (K : PyData → Prop → Prop) (Q : VK), Env D0 S σ H o → Vals' D0 o H vs ds c → g ds c K →
    (∀ z dz cz H', K dz cz → Lh H H' → Val D0 o H' z dz cz → Q z H') → r vs H Q
/-- .. that make a new list -/
abbrev RDL := List PyData → Prop → (List PyData → Prop → Prop) → Prop
structure FnO [Tbs] (X : Cx) (f : Value) (g : RDL) : Prop where
  ex : ∃ r, CallR X f r ∧ ∀ (D0 : Addr → Bool) (S : Slots) (σ : St) (o : Ow) (H : Hp) (vs : List V) (ds : List PyData) (c : Prop) (K : List PyData → Prop → Prop) (Q : VK), Env D0 S σ H o → Vals' D0 o H vs ds c → g ds c K →
    (∀ zs cz ws p H1, K zs cz → Lh H H1 → H1 p = none → Vals' D0 o H1 ws zs cz → Q (.ref p) (upd H1 p (.lst ws))) → r vs H Q
def wFn (g : RD) (wa : WLs) : WEx := fun S A B => wa S (fun ds c S1 => g ds c fun z cz => A z cz S1) B
def wFnO (g : RDL) (wa : WLs) : WLs := fun S A B => wa S (fun ds c S1 => g ds c fun zs cz => A zs cz S1) B
theorem snd_fn [Tbs] {g : RD} {wa : WLs} {ta : TA} {r : List V → Hp → VK → Prop} {n : Nat} (sa : SndA W ta n wa) (hr : ∀ (D0 : Addr → Bool) (S : Slots) (σ : St) (o : Ow) (H : Hp) (vs : List V) (ds : List PyData) (c : Prop) (K : PyData → Prop → Prop) (Q : VK), Env D0 S σ H o → Vals' D0 o H vs ds c → g ds c K →
    (∀ z dz cz H', K dz cz → Lh H H' → Val D0 o H' z dz cz → Q z H') → r vs H Q) : Snd W (tCB r ta) (wFn g wa) := by
  intro D0 S σ H o A B Q E hw k kx
  refine sa D0 S σ H o _ B _ E hw (fun ds c S1 vs H1 hl h1 E1 x1 V1 => ?_) kx
  exact hr D0 S1 σ o H1 vs ds c _ Q E1 V1 h1 fun z dz cz H' hz le V => k _ _ S1 z H' hz (E1.xe le) (x1.trans (XE.of le)) V
theorem se_fb [Tbs] {id : String} {x : Str} {p : Pos} {e : Expr} {es : List Expr} {g : RD} {wa : WLs} (hc : Fn X (.builtin id) g) (hm : X.mg x = none) (hv : bootBuiltins x = some (.builtin id)) (ha : SA X W (e :: es) wa) (hg : Gl X x := by rfl) (hn : x ≠ "__name__" := by decide) (hdb : (x == ("__debug__" : Str)) = false := by decide)
    (he : starEach (e :: es) X.env = (false, eval e X.env) :: starEach es X.env := by rfl) (hpl : (backTo pos (starEach es X.env)).any (·.1) = false := by rfl) : SE X W (.Call (.Name x p) (e :: es) [] pos) (wFn g wa) := by
  obtain ⟨ta, pa, sa⟩ := ha.ex
  obtain ⟨r, hr, h⟩ := hc.ex
  exact ⟨_, pe_callB hr hg hm hv pa hn hdb he hpl, snd_fn sa h⟩
theorem se_ft [Tbs] {T : String} {x : Str} {p : Pos} {e : Expr} {es : List Expr} {g : RD} {wa : WLs} (hc : Fn X (.type T) g) (hm : X.mg x = none) (hv : bootBuiltins x = some (.type T)) (ha : SA X W (e :: es) wa) (hg : Gl X x := by rfl) (hn : x ≠ "__name__" := by decide) (hdb : (x == ("__debug__" : Str)) = false := by decide)
    (he : starEach (e :: es) X.env = (false, eval e X.env) :: starEach es X.env := by rfl) (hpl : (backTo pos (starEach es X.env)).any (·.1) = false := by rfl) : SE X W (.Call (.Name x p) (e :: es) [] pos) (wFn g wa) := by
  obtain ⟨ta, pa, sa⟩ := ha.ex
  obtain ⟨r, hr, h⟩ := hc.ex
  exact ⟨_, pe_callTy hr hg hm hv pa hn hdb he hpl, snd_fn sa h⟩
theorem snd_fnO [Tbs] {g : RDL} {wa : WLs} {ta : TA} {r : List V → Hp → VK → Prop} {n : Nat} (sa : SndA W ta n wa) (hr : ∀ (D0 : Addr → Bool) (S : Slots) (σ : St) (o : Ow) (H : Hp) (vs : List V) (ds : List PyData) (c : Prop) (K : List PyData → Prop → Prop) (Q : VK), Env D0 S σ H o → Vals' D0 o H vs ds c → g ds c K →
    (∀ zs cz ws p H1, K zs cz → Lh H H1 → H1 p = none → Vals' D0 o H1 ws zs cz → Q (.ref p) (upd H1 p (.lst ws))) → r vs H Q) : SndO W (tCB r ta) (wFnO g wa) := by
  intro D0 S σ H o A B Q E hw k kx
  refine sa D0 S σ H o _ B _ E hw (fun ds c S1 vs H1 hl h1 E1 x1 V1 => ?_) kx
  exact hr D0 S1 σ o H1 vs ds c _ Q E1 V1 h1 fun zs cz ws p H2 hz le hp V => k _ _ S1 ws p H2 hz (E1.xe le) (x1.trans (XE.of le)) hp V
theorem so_fb [Tbs] {id : String} {x : Str} {p : Pos} {e : Expr} {es : List Expr} {g : RDL} {wa : WLs} (hc : FnO X (.builtin id) g) (hm : X.mg x = none) (hv : bootBuiltins x = some (.builtin id)) (ha : SA X W (e :: es) wa) (hg : Gl X x := by rfl) (hn : x ≠ "__name__" := by decide) (hdb : (x == ("__debug__" : Str)) = false := by decide)
    (he : starEach (e :: es) X.env = (false, eval e X.env) :: starEach es X.env := by rfl) (hpl : (backTo pos (starEach es X.env)).any (·.1) = false := by rfl) : SO X W (.Call (.Name x p) (e :: es) [] pos) (wFnO g wa) := by
  obtain ⟨ta, pa, sa⟩ := ha.ex
  obtain ⟨r, hr, h⟩ := hc.ex
  exact ⟨_, pe_callB hr hg hm hv pa hn hdb he hpl, snd_fnO sa h⟩
theorem so_ft [Tbs] {T : String} {x : Str} {p : Pos} {e : Expr} {es : List Expr} {g : RDL} {wa : WLs} (hc : FnO X (.type T) g) (hm : X.mg x = none) (hv : bootBuiltins x = some (.type T)) (ha : SA X W (e :: es) wa) (hg : Gl X x := by rfl) (hn : x ≠ "__name__" := by decide) (hdb : (x == ("__debug__" : Str)) = false := by decide)
    (he : starEach (e :: es) X.env = (false, eval e X.env) :: starEach es X.env := by rfl) (hpl : (backTo pos (starEach es X.env)).any (·.1) = false := by rfl) : SO X W (.Call (.Name x p) (e :: es) [] pos) (wFnO g wa) := by
  obtain ⟨ta, pa, sa⟩ := ha.ex
  obtain ⟨r, hr, h⟩ := hc.ex
  exact ⟨_, pe_callTy hr hg hm hv pa hn hdb he hpl, snd_fnO sa h⟩

/-! ### defs of the text -/
/-- what a def makes of its arguments: the wish for its value, the wish for an exception -/
abbrev Spc := List PyData → (PyData → Prop) → (XC → Prop) → Prop
def hid (D0 : Addr → Bool) (C : Hp) : Hp := fun a => if D0 a = true then none else C a
/-- the promise of a def that changes nothing; n: how many parameters -/
def spOf [Tbs] (mg : Str → Option Value) (n : Nat) (sp : Spc) : Sp := fun vs H Q E => TbOk H ∧ ∃ (ds : List PyData) (D0 : Addr → Bool) (A : PyData → Prop) (B : XC → Prop), ds.length = n ∧ (∀ a, D0 a = true → ∃ u, co H a = some u ∧ isTup u = false) ∧ RpAll (hid D0 (co H)) vs ds ∧ sp ds A B ∧
  (∀ d v H', A d → Lh H H' → Rp (hid D0 (co H')) v d → Q v H') ∧ (∀ x cls dd H', B x → Lh H H' → XOk mg H' x cls dd → E cls dd H')
theorem spOf_len [Tbs] {mg : Str → Option Value} {n : Nat} {sp : Spc} {vs : List V} {H : Hp} {Q : VK} {E : XK} (h : spOf mg n sp vs H Q E) : vs.length = n := by
  obtain ⟨_, ds, D0, A, B, h1, h2, h3, _⟩ := h
  rw [h3.length, h1]
def wCall (sp : Spc) (wa : WLs) : WEx := fun S A B => wa S (fun ds c S1 => sp ds (fun d => A d c S1) (fun x => B x S1)) B
theorem hid_vw {D0 : Addr → Bool} {o : Ow} {C : Hp} : hid (fun a => D0 a || (o a).isSome) C = vw D0 o C := rfl
theorem hid_vt {D0 : Addr → Bool} {o : Ow} {C : Hp} : hid (fun a => D0 a || mutO (o a)) C = vt D0 o C := rfl
theorem Env.deadV [Tbs] {D0 : Addr → Bool} {S : Slots} {σ : St} {H : Hp} {o : Ow} (E : Env D0 S σ H o) : ∀ a, (D0 a || (o a).isSome) = true → ∃ u, co H a = some u ∧ isTup u = false := fun a h => by
  rw [Bool.or_eq_true] at h
  rcases h with h | h
  · exact E.dead a h
  · cases e : o a with
    | none => rw [e] at h; cases h
    | some p => exact (E.live a p e).2
theorem Env.deadM [Tbs] {D0 : Addr → Bool} {S : Slots} {σ : St} {H : Hp} {o : Ow} (E : Env D0 S σ H o) : ∀ a, (D0 a || mutO (o a)) = true → ∃ u, co H a = some u ∧ isTup u = false := fun a h => by
  rw [Bool.or_eq_true] at h
  rcases h with h | h
  · exact E.dead a h
  · cases e : o a with
    | none => rw [e] at h; cases h
    | some p => exact (E.live a p e).2
/-- a def as it stands, with its promise -/
structure Def (P : Program) (w : World) (K : PySem.W.Frag) (mg : Str → Option Value) (base : Heap) (k : Nat) (x : Str) (n : Nat) (sp : Sp) : Prop where
  ex : ∃ (f : Addr) (fd : FuncData) (ps : List Str), FnOk P w K mg base (L2.CX P w) k f fd ps sp ∧ mg x = some (.ref f) ∧ PySem.W.keepIn K (.ref f) = true ∧ Binds K fd ps [] ∧ ps.length = n
theorem se_call [Tbs] {j n : Nat} {sp : Spc} {x : Str} {p : Pos} {e : Expr} {es : List Expr} {wa : WLs} (a : At X W k) (F : Def X.prog X.w X.K X.mg X.base j x n (spOf X.mg n sp)) (hj : j ≤ k) (ha : SA X W (e :: es) wa) (hg : Gl X x := by rfl) (hdb : (x == ("__debug__" : Str)) = false := by decide)
    (he : starEach (e :: es) X.env = (false, eval e X.env) :: starEach es X.env := by rfl) (hpl : (backTo pos (starEach es X.env)).any (·.1) = false := by rfl) (hn : (e :: es).length = n := by rfl) : SE X W (.Call (.Name x p) (e :: es) [] pos) (wCall sp wa) := by
  obtain ⟨ta, pa, sa⟩ := ha.ex
  obtain ⟨f, fd, ps, G, hm, hk, hb, hps⟩ := F.ex
  refine ⟨_, pe_callS G (a.room.mono hj) hg hm hk hb a.tk pa hdb he hpl, ?_⟩
  intro D0 S σ H o A B Q E hw kk kx
  refine sa D0 S σ H o _ B _ E hw (fun ds c S1 vs H1 hl h1 E1 x1 V1 => ?_) kx
  have hl := hl.trans hn
  have ex : ∀ x cls dd H', B x S1 → Lh H1 H' → XOk X.mg H' x cls dd → W.w cls dd σ H' := fun x cls dd H' hx le ok => kx x S1 cls dd H' hx (E1.xe le) (x1.trans (XE.of le)) (by rw [a.mq]; exact ok)
  by_cases hc : c
  · refine ⟨E1.tb, ds, fun a => D0 a || (o a).isSome, _, _, hl, E1.deadV, V1.2 hc, h1, fun d v H' hd le r => ?_, fun x cls dd H' hx le ok => ex x cls dd H' hx le ok⟩
    exact kk d c S1 v H' hd (E1.xe le) (x1.trans (XE.of le)) ⟨Rp.mono vw_le_vt r, fun _ => r⟩
  · refine ⟨E1.tb, ds, fun a => D0 a || mutO (o a), _, _, hl, E1.deadM, V1.1, h1, fun d v H' hd le r => ?_, fun x cls dd H' hx le ok => ex x cls dd H' hx le ok⟩
    exact kk d c S1 v H' hd (E1.xe le) (x1.trans (XE.of le)) ⟨r, fun z => absurd z hc⟩

/-! ### places -/
def atD (xs : List PyData) (i : Int) : Option PyData := (ixN xs.length i).bind fun j => xs[j]?
theorem rp_at {G : Hp} {vs : List V} {ds : List PyData} {i : Int} {d : PyData} (r : RpAll G vs ds) (h : atD ds i = some d) : ∃ v, atI vs i = some v ∧ Rp G v d := by
  unfold atD at h
  unfold atI
  rw [r.length]
  cases e : ixN ds.length i with
  | none => rw [e] at h; cases h
  | some j =>
    rw [e] at h
    obtain ⟨v, hv, rv⟩ := r.get (i := j) (d := d) h
    exact ⟨v, hv, rv⟩
theorem rp_at2 {G G' : Hp} {vs : List V} {ds : List PyData} {i : Int} {d : PyData} {v : V} (r : RpAll G vs ds) (h : atD ds i = some d) (hv : atI vs i = some v) : Rp G v d := by
  obtain ⟨v', h1, h2⟩ := rp_at r h
  rw [hv] at h1
  cases h1
  exact h2
def wIx (wa wb : WEx) : WEx := fun S A B => wa S (fun x cx S1 => wb S1 (fun y _ S2 => match x, y with
  | .list xs, .int i => ∃ d, atD xs i = some d ∧ A d (cx ∨ flats xs = true) S2
  | .tuple xs, .int i => ∃ d, atD xs i = some d ∧ A d (cx ∨ flats xs = true) S2
  | .str s, .int i => s.length ≤ sizeLine ∧ ∃ z, atI s.cps.toList i = some z ∧ A (.str ⟨#[z]⟩) True S2
  | _, _ => False) B) B
theorem se_ix [Tbs] {a b : Expr} {wa wb : WEx} (ha : SE X W a wa) (hb : SE X W b wb) (hs : PlainIx b := by exact fun _ _ => rfl) : SE X W (.Subscript a b pos) (wIx wa wb) := by
  obtain ⟨ta, pa, sa⟩ := ha.ex
  obtain ⟨tb, pb, sb⟩ := hb.ex
  refine ⟨_, pe_ix ix_seq pa pb hs, ?_⟩
  intro D0 S σ H o A B Q E hw k kx
  refine sa D0 S σ H o _ B _ E hw (fun x cx S1 v H1 h1 E1 x1 V1 => ?_) kx
  refine sb D0 S1 σ H1 o _ B _ E1 h1 (fun y cy S2 u H2 h2 E2 x2 V2 => ?_) (kx.on x1)
  have V1' := V1.mono x2
  split at h2
  · obtain ⟨d, hd, h2⟩ := h2
    cases V2.1
    obtain ⟨a, vs, rfl, e, r, c⟩ := V1'.items E2
    obtain ⟨w', e1, r1⟩ := rp_at r hd
    exact .inl ⟨a, vs, _, w', rfl, rfl, SqL.at e, e1, k _ _ S2 _ H2 h2 E2 (x1.trans x2) ⟨r1, fun z => rp_at2 (G' := co H2) (c z) hd e1⟩⟩
  · obtain ⟨d, hd, h2⟩ := h2
    cases V2.1
    obtain ⟨a, vs, rfl, e, r, c⟩ := V1'.titems E2
    obtain ⟨w', e1, r1⟩ := rp_at r hd
    exact .inr (.inl ⟨a, vs, _, w', rfl, rfl, SqT.at e, e1, k _ _ S2 _ H2 h2 E2 (x1.trans x2) ⟨r1, fun z => rp_at2 (G' := co H2) (c z) hd e1⟩⟩)
  · obtain ⟨hz, z, hd, h2⟩ := h2
    cases V2.1
    cases V1'.1
    exact .inr (.inr ⟨_, _, z, rfl, rfl, hz, hd, k _ _ S2 _ H2 h2 E2 (x1.trans x2) (Val.of (.str _))⟩)
  · exact h2.elim

/-! ### targets; L: the slots that may be stored -/
abbrev WTg := PyData → Prop → Slots → (Slots → Prop) → Prop
abbrev WTgs := List PyData → Prop → Slots → (Slots → Prop) → Prop
/-- but for L the frame is as it was -/
structure Kept (L : List Nat) (S : Slots) (σ : St) (S' : Slots) (σ' : St) : Prop where
  ln : σ'.length = σ.length
  st : ∀ j, j ∉ L → σ'[j]? = σ[j]?
  sl : ∀ j, j ∉ L → S'[j]? = S[j]?
theorem Kept.refl (L : List Nat) (S : Slots) (σ : St) : Kept L S σ S σ := ⟨rfl, fun _ _ => rfl, fun _ _ => rfl⟩
theorem Kept.trans {L M : List Nat} {S S1 S2 : Slots} {σ σ1 σ2 : St} (a : Kept L S σ S1 σ1) (b : Kept M S1 σ1 S2 σ2) : Kept (L ++ M) S σ S2 σ2 :=
  ⟨b.ln.trans a.ln, fun j h => (b.st j fun z => h (List.mem_append_right _ z)).trans (a.st j fun z => h (List.mem_append_left _ z)), fun j h => (b.sl j fun z => h (List.mem_append_right _ z)).trans (a.sl j fun z => h (List.mem_append_left _ z))⟩
def SndG [Tbs] (L : List Nat) (g : TG) (w : WTg) : Prop := ∀ (D0 : Addr → Bool) (S : Slots) (σ : St) (H : Hp) (o : Ow) (v : V) (d : PyData) (c : Prop) (K : Slots → Prop) (Q : St → Hp → Prop), Env D0 S σ H o → Val D0 o H v d c → w d c S K →
  (∀ S' σ', K S' → Env D0 S' σ' H o → Kept L S σ S' σ' → Q σ' H) → g v σ H Q
def SndGs [Tbs] (L : List Nat) (g : TGs) (w : WTgs) : Prop := ∀ (D0 : Addr → Bool) (S : Slots) (σ : St) (H : Hp) (o : Ow) (vs : List V) (ds : List PyData) (c : Prop) (K : Slots → Prop) (Q : St → Hp → Prop), Env D0 S σ H o → Vals' D0 o H vs ds c → w ds c S K →
  (∀ S' σ', K S' → Env D0 S' σ' H o → Kept L S σ S' σ' → Q σ' H) → g vs σ H Q
structure SG [Tbs] (X : Cx) (tg : Expr) (L : List Nat) (w : WTg) : Prop where
  ex : ∃ t, PG X tg t ∧ SndG L t w
structure SGs [Tbs] (X : Cx) (tgs : List Expr) (L : List Nat) (w : WTgs) : Prop where
  ex : ∃ t, PGs X tgs t ∧ SndGs L t w
/-- slot i holds data -/
theorem Env.put [Tbs] {D0 : Addr → Bool} {S : Slots} {σ : St} {H : Hp} {o : Ow} {v : V} {d : PyData} (E : Env D0 S σ H o) (i : Nat) (hr : Rp (vw D0 o (co H)) v d) : Env D0 (S.set i (.im d)) (σ.set i (some v)) H o := by
  refine ⟨by rw [List.length_set, List.length_set]; exact E.len, E.live, E.dead, fun j s h => ?_, E.nf, E.tb⟩
  by_cases e : i = j
  · subst e
    have hi : i < S.length := by
      have := List.getElem?_eq_some_iff.mp h
      obtain ⟨h1, _⟩ := this
      rw [List.length_set] at h1
      exact h1
    rw [List.getElem?_set_self hi] at h
    cases h
    exact ⟨v, by rw [List.getElem?_set_self (by rw [E.len]; exact hi)], hr⟩
  · rw [List.getElem?_set_ne e] at h ⊢
    exact E.sl j s h
def wN (i : Nat) : WTg := fun d c S K => (c ∨ flat d = true) ∧ K (S.set i (.im d))
theorem sg_n [Tbs] (i : Nat) {x : Str} {p : Pos} (nd : X.N.Nodup) (hi : X.N[i]? = some x := by rfl) (hx : Loc X.env.scope x := by first | exact Or.inl rfl | exact Or.inr rfl) (hf : X.fn x = true ∨ X.env.scope.names.lookup x = some .local := by first | exact .inl rfl | exact .inr rfl) : SG X (.Name x p) [i] (wN i) := by
  refine ⟨_, pg_name nd hi hx hf, ?_⟩
  intro D0 S σ H o v d c K Q E V hw k
  refine k _ _ hw.2 (E.put i ((V.flat E).2 hw.1)) ⟨by rw [List.length_set], fun j hj => ?_, fun j hj => ?_⟩
  · rw [List.getElem?_set_ne (fun z => hj (by rw [z]; exact List.mem_cons_self))]
  · rw [List.getElem?_set_ne (fun z => hj (by rw [z]; exact List.mem_cons_self))]
def wGNil : WTgs := fun ds _ S K => ds = [] ∧ K S
def wGCons (w : WTg) (ws : WTgs) : WTgs := fun ds c S K => match ds with
  | d :: r => w d c S fun S1 => ws r c S1 K
  | [] => False
theorem sgs_nil [Tbs] : SGs X [] [] wGNil := ⟨_, pgs_nil, fun D0 S σ H o vs ds c K Q E V hw k => by
  obtain ⟨rfl, hw⟩ := hw
  have e := V.1.length
  exact ⟨List.eq_nil_of_length_eq_zero e, k _ _ hw E (Kept.refl _ _ _)⟩⟩
theorem sgs_cons [Tbs] {t : Expr} {ts : List Expr} {L M : List Nat} {w : WTg} {ws : WTgs} (h1 : SG X t L w) (h2 : SGs X ts M ws)
    (hs : (assignEach (t :: ts) X.env).map (·.2) = assign t X.env :: (assignEach ts X.env).map (·.2) := by rfl) : SGs X (t :: ts) (L ++ M) (wGCons w ws) := by
  obtain ⟨g, pg, sg⟩ := h1.ex
  obtain ⟨gs, pgs, sgs⟩ := h2.ex
  refine ⟨_, pgs_cons pg pgs hs, ?_⟩
  intro D0 S σ H o vs ds c K Q E V hw k
  unfold wGCons at hw
  split at hw
  · rename_i d r
    obtain ⟨V1, V2⟩ := V
    cases V1 with
    | cons a b =>
      refine ⟨_, _, rfl, ?_⟩
      refine sg D0 S σ H o _ d c _ _ E ⟨a, fun z => by cases V2 z with | cons a' b' => exact a'⟩ hw fun S1 σ1 h1 E1 k1 => ?_
      exact sgs D0 S1 σ1 H o _ r c K Q E1 ⟨b, fun z => by cases V2 z with | cons a' b' => exact b'⟩ h1 fun S2 σ2 h2 E2 k2 => k S2 σ2 h2 E2 (k1.trans k2)
  · exact hw.elim
def wGT (n : Nat) (ws : WTgs) : WTg := fun d c S K => match d with
  | .tuple ds => ds.length = n ∧ ws ds (c ∨ flats ds = true) S K
  | _ => False
theorem sg_t [Tbs] {es : List Expr} {n kk : Nat} {L : List Nat} {ws : WTgs} (hc : X.calm = true) (h : SGs X es L ws)
    (hn : (assignEach es X.env).length = n := by rfl) (hst : (assignEach es X.env).findIdx? (·.1) = none := by rfl) : SG X (.Tuple es kk pos) L (wGT n ws) := by
  obtain ⟨g, pg, sg⟩ := h.ex
  refine ⟨_, pg_tup hc pg hn hst, ?_⟩
  intro D0 S σ H o v d c K Q E V hw k
  unfold wGT at hw
  split at hw
  · obtain ⟨a, vs, rfl, e, r, rc⟩ := V.titems E
    exact ⟨a, vs, rfl, SqT.at e, by rw [r.length]; exact hw.1, sg D0 S σ H o vs _ _ K Q E ⟨r, rc⟩ hw.2 k⟩
  · exact hw.elim
end
end Pu

namespace Pu
open PySem L2

/-! ### what is walked -/
/-- what is nobody's and locked stays locked -/
def LkX (o : Ow) (H H' : Hp) : Prop := ∀ a od u, o a = none → H a = some (.frz od u) → H' a = some (.frz od u)
theorem XE.lk {o : Ow} {H H' : Hp} (h : XE o H H') : LkX o H H' := fun a od u n e => h a _ (by rw [n]; rfl) e rfl
/-- the walk J goes through the data ds; Z: what it stands on -/
structure Wk [Tbs] (J : It) (ds : List PyData) (c : Prop) (Z : (Addr → Bool) → Ow → Hp → Prop) : Prop where
  go : ∀ D0 o H i, Z D0 o H → i < ds.length → J.go i H
  stop : ∀ D0 o H, Z D0 o H → J.stop ds.length H
  yld : ∀ D0 S σ o H i x H' d, Z D0 o H → Env D0 S σ H o → ds[i]? = some d → J.yld i H x H' → Lh H H' ∧ Val D0 o H' x d c
  xe : ∀ D0 D0' o H H', Z D0 o H → LkX o H H' → Le (vt D0 o (co H)) (vt D0' o (co H')) → Le (vw D0 o (co H)) (vw D0' o (co H')) → Z D0' o H'
  fr : ∀ D0 o H o' H', c → Z D0 o H → Fr o H o' H' → Le (vw D0 o (co H)) (vw D0 o' (co H')) → Z D0 o' H'
def SndI [Tbs] (W : WM) (wi : TI) (w : WLs) : Prop := ∀ (D0 : Addr → Bool) (S : Slots) (σ : St) (H : Hp) (o : Ow) (A : List PyData → Prop → Slots → Prop) (B : EK) (R : It → Hp → Prop), Env D0 S σ H o → w S A B →
  (∀ ds c S' J H' Z, A ds c S' → Env D0 S' σ H' o → XE o H H' → Wk J ds c Z → Z D0 o H' → R J H') → Xw W D0 σ o H B → wi σ H R
structure SI [Tbs] (X : Cx) (W : WM) (tg e : Expr) (w : WLs) : Prop where
  ex : ∃ wi, PI X tg e wi ∧ SndI W wi w

section
variable {X : Cx} {W : WM} {k : Nat} {pos : Pos}
def zL (a : Addr) (ds : List PyData) (c : Prop) : (Addr → Bool) → Ow → Hp → Prop := fun D0 o H => Rp (vt D0 o (co H)) (.ref a) (.list ds) ∧ (c → Rp (vw D0 o (co H)) (.ref a) (.list ds))
def zT (a : Addr) (ds : List PyData) (c : Prop) : (Addr → Bool) → Ow → Hp → Prop := fun D0 o H => Rp (vt D0 o (co H)) (.ref a) (.tuple ds) ∧ (c → Rp (vw D0 o (co H)) (.ref a) (.tuple ds))
theorem wk_list [Tbs] {K : PySem.W.Frag} {a : Addr} {ds : List PyData} {c : Prop} : Wk (Itl K a) ds c (zL a ds c) where
  go := fun D0 o H i z hi => by
    obtain ⟨b, vs, e, h, r⟩ := rp_lst z.1
    cases e
    have hi' : i < vs.length := by rw [r.length]; exact hi
    exact ⟨vs, vs[i], SqL.at (co_lst (vt_le _ _ h)), by rw [List.getElem?_eq_getElem hi']⟩
  stop := fun D0 o H z => by
    obtain ⟨b, vs, e, h, r⟩ := rp_lst z.1
    cases e
    exact ⟨vs, SqL.at (co_lst (vt_le _ _ h)), by rw [r.length]; exact Nat.le_refl _⟩
  yld := fun D0 S σ o H i x H' d z E hd y => by
    obtain ⟨rfl, y⟩ := y
    obtain ⟨b, vs, e, h, r⟩ := rp_lst z.1
    cases e
    have hx := y vs (SqL.at (co_lst (vt_le _ _ h)))
    obtain ⟨v, h1, h2⟩ := r.get hd
    rw [hx] at h1
    cases h1
    refine ⟨Lh.refl _, h2, fun hc => ?_⟩
    obtain ⟨b', vs', e', h', r'⟩ := rp_lst (z.2 hc)
    cases e'
    have e2 := co_lst (vt_le _ _ h)
    have e3 := co_lst (vw_le _ _ h')
    rw [e2] at e3
    cases e3
    obtain ⟨v', h1', h2'⟩ := r'.get hd
    rw [hx] at h1'
    cases h1'
    exact h2'
  xe := fun D0 D0' o H H' z _ l1 l2 => ⟨z.1.mono l1, fun hc => (z.2 hc).mono l2⟩
  fr := fun D0 o H o' H' hc z _ l => ⟨((z.2 hc).mono l).mono vw_le_vt, fun _ => (z.2 hc).mono l⟩
theorem wk_tup [Tbs] {K : PySem.W.Frag} {a : Addr} {ds : List PyData} {c : Prop} : Wk (Itt K a) ds c (zT a ds c) where
  go := fun D0 o H i z hi => by
    obtain ⟨b, vs, e, h, r⟩ := rp_tup z.1
    cases e
    have hi' : i < vs.length := by rw [r.length]; exact hi
    exact ⟨vs, vs[i], SqT.at (co_tup (vt_le _ _ h)), by rw [List.getElem?_eq_getElem hi']⟩
  stop := fun D0 o H z => by
    obtain ⟨b, vs, e, h, r⟩ := rp_tup z.1
    cases e
    exact ⟨vs, SqT.at (co_tup (vt_le _ _ h)), by rw [r.length]; exact Nat.le_refl _⟩
  yld := fun D0 S σ o H i x H' d z E hd y => by
    obtain ⟨rfl, y⟩ := y
    obtain ⟨b, vs, e, h, r⟩ := rp_tup z.1
    cases e
    have hx := y vs (SqT.at (co_tup (vt_le _ _ h)))
    obtain ⟨v, h1, h2⟩ := r.get hd
    rw [hx] at h1
    cases h1
    refine ⟨Lh.refl _, h2, fun hc => ?_⟩
    obtain ⟨b', vs', e', h', r'⟩ := rp_tup (z.2 hc)
    cases e'
    have e2 := co_tup (vt_le _ _ h)
    have e3 := co_tup (vw_le _ _ h')
    rw [e2] at e3
    cases e3
    obtain ⟨v', h1', h2'⟩ := r'.get hd
    rw [hx] at h1'
    cases h1'
    exact h2'
  xe := fun D0 D0' o H H' z _ l1 l2 => ⟨z.1.mono l1, fun hc => (z.2 hc).mono l2⟩
  fr := fun D0 o H o' H' hc z _ l => ⟨((z.2 hc).mono l).mono vw_le_vt, fun _ => (z.2 hc).mono l⟩
def rangeD (lo : Int) (n : Nat) : List PyData := (List.range n).map fun (i : Nat) => PyData.int (lo + (i : Int))
theorem rangeD_get {lo : Int} {n i : Nat} {d : PyData} (h : (rangeD lo n)[i]? = some d) : i < n ∧ d = .int (lo + (i : Int)) := by
  unfold rangeD at h
  rw [List.getElem?_map] at h
  by_cases hi : i < n
  · rw [List.getElem?_range hi] at h
    exact ⟨hi, (Option.some.inj h).symm⟩
  · rw [List.getElem?_eq_none (by rw [List.length_range]; omega)] at h
    cases h
theorem wk_range [Tbs] {lo : Int} {n : Nat} : Wk (Itr lo n) (rangeD lo n) True (fun _ _ _ => True) where
  go := fun D0 o H i _ hi => by
    have e : (rangeD lo n).length = n := by unfold rangeD; rw [List.length_map, List.length_range]
    show i < n
    omega
  stop := fun D0 o H _ => by
    have e : (rangeD lo n).length = n := by unfold rangeD; rw [List.length_map, List.length_range]
    show n ≤ (rangeD lo n).length
    omega
  yld := fun D0 S σ o H i x H' d _ E hd y => by
    obtain ⟨rfl, rfl⟩ := y
    obtain ⟨_, rfl⟩ := rangeD_get hd
    exact ⟨Lh.refl _, Val.of (.int _)⟩
  xe := fun _ _ _ _ _ _ _ _ _ => trivial
  fr := fun _ _ _ _ _ _ _ _ _ => trivial
def wIL (wl : WEx) : WLs := fun S A B => wl S (fun d c S1 => match d with
  | .list ds => A ds c S1
  | _ => False) B
def wIT (wl : WEx) : WLs := fun S A B => wl S (fun d c S1 => match d with
  | .tuple ds => A ds (c ∨ flats ds = true) S1
  | _ => False) B
theorem si_l [Tbs] {tg e : Expr} {we : WEx} (he : SE X W e we) : SI X W tg e (wIL we) := by
  obtain ⟨te, pe, se⟩ := he.ex
  refine ⟨_, pi_list pe, ?_⟩
  intro D0 S σ H o A B R E hw k kx
  refine se D0 S σ H o _ B _ E hw (fun d c S1 v H1 h1 E1 x1 V1 => ?_) kx
  split at h1
  · obtain ⟨a, vs, rfl, e, r, _⟩ := V1.items E1
    exact ⟨a, rfl, ⟨vs, SqL.at e⟩, k _ c S1 _ H1 _ h1 E1 x1 wk_list ⟨V1.1, V1.2⟩⟩
  · exact h1.elim
theorem si_t [Tbs] {tg e : Expr} {we : WEx} (he : SE X W e we) : SI X W tg e (wIT we) := by
  obtain ⟨te, pe, se⟩ := he.ex
  refine ⟨_, pi_tup pe, ?_⟩
  intro D0 S σ H o A B R E hw k kx
  refine se D0 S σ H o _ B _ E hw (fun d c S1 v H1 h1 E1 x1 V1 => ?_) kx
  split at h1
  · have V2 := V1.flat E1
    obtain ⟨a, vs, rfl, e, r, _⟩ := V1.titems E1
    exact ⟨a, rfl, ⟨vs, SqT.at e⟩, k _ _ S1 _ H1 _ h1 E1 x1 wk_tup ⟨V2.1, fun z => V2.2 (z.elim .inl fun f => .inr (by rw [flat]; exact f))⟩⟩
  · exact h1.elim
def wR1 (wa : WLs) : WLs := fun S A B => wa S (fun ds _ S1 => match ds with
  | [.int n] => -(2 ^ 62) ≤ n ∧ n < 2 ^ 62 ∧ A (rangeD 0 n.toNat) True S1
  | _ => False) B
def wR2 (wa : WLs) : WLs := fun S A B => wa S (fun ds _ S1 => match ds with
  | [.int i, .int j] => (-(2 ^ 62) ≤ i ∧ i < 2 ^ 62 ∧ -(2 ^ 62) ≤ j ∧ j < 2 ^ 62) ∧ A (rangeD i (j - i).toNat) True S1
  | _ => False) B
theorem si_r1 [Tbs] {tg a : Expr} {p : Pos} {wa : WLs} (hm : X.mg "range" = none) (ha : SA X W [a] wa) (hg : Gl X "range" := by rfl) (hs : starEach [a] X.env = [(false, eval a X.env)] := by rfl) : SI X W tg (.Call (.Name "range" p) [a] [] pos) (wR1 wa) := by
  obtain ⟨ta, pa, sa⟩ := ha.ex
  refine ⟨_, pi_range1 hg hm pa hs, ?_⟩
  intro D0 S σ H o A B R E hw k kx
  refine sa D0 S σ H o _ B _ E hw (fun ds c S1 vs H1 hl h1 E1 x1 V1 => ?_) kx
  split at h1
  · obtain ⟨h2, h3, h4⟩ := h1
    obtain ⟨V1, _⟩ := V1
    cases V1 with
    | cons a b =>
      cases a
      cases b
      exact ⟨_, rfl, h2, h3, k _ _ S1 _ H1 _ h4 E1 x1 wk_range trivial⟩
  · exact h1.elim
theorem si_r2 [Tbs] {tg a b : Expr} {p : Pos} {wa : WLs} (hm : X.mg "range" = none) (ha : SA X W [a, b] wa) (hg : Gl X "range" := by rfl) (hs : starEach [a, b] X.env = [(false, eval a X.env), (false, eval b X.env)] := by rfl) (hs2 : starEach [b] X.env = [(false, eval b X.env)] := by rfl) : SI X W tg (.Call (.Name "range" p) [a, b] [] pos) (wR2 wa) := by
  obtain ⟨ta, pa, sa⟩ := ha.ex
  refine ⟨_, pi_range2 hg hm pa hs hs2, ?_⟩
  intro D0 S σ H o A B R E hw k kx
  refine sa D0 S σ H o _ B _ E hw (fun ds c S1 vs H1 hl h1 E1 x1 V1 => ?_) kx
  split at h1
  · obtain ⟨h2, h4⟩ := h1
    obtain ⟨V1, _⟩ := V1
    cases V1 with
    | cons a b =>
      cases a
      cases b with
      | cons a b =>
        cases a
        cases b
        exact ⟨_, _, rfl, h2, k _ _ S1 _ H1 _ h4 E1 x1 wk_range trivial⟩
  · exact h1.elim

/-! ### comprehensions -/
def wipeS (S : Slots) : List Nat → Slots
  | [] => S
  | v :: vs => (wipeS S vs).set v .un
def noX : EK := fun _ _ => False
def lcL (wg : WTg) (wt : WTx) (we : WEx) (c : Prop) (S : Slots) : List PyData → List PyData → Prop → (List PyData → Prop → Prop) → Prop
  | [], acc, ca, K => K acc ca
  | d :: r, acc, ca, K => wg d c S fun S1 => wt S1 (fun b S2 => S2 = S1 ∧ if b = true then we S1 (fun e ce S3 => S3 = S1 ∧ acc.length < sizeLine ∧ lcL wg wt we c S r (acc ++ [e]) (ca ∧ (ce ∨ flat e = true)) K) noX else lcL wg wt we c S r acc ca K) noX
def notRng : Option Slot → Bool
  | some s => !isMut s
  | none => true
def wLc (wi : WLs) (wg : WTg) (wt : WTx) (we : WEx) (vs : List Nat) : WLs := fun S A B => wi S (fun ds c S1 => (vs.all fun j => notRng S1[j]?) = true ∧ lcL wg wt we c (wipeS S1 vs) ds [] True fun acc ca => A acc ca S1) B
theorem wipe_get {σ : St} {j : Nat} : ∀ {vs : List Nat}, j ∉ vs → (wipe σ vs)[j]? = σ[j]?
  | [], _ => rfl
  | v :: vs, h => by
    unfold wipe
    rw [List.getElem?_set_ne (fun z => h (by rw [z]; exact List.mem_cons_self))]
    exact wipe_get fun z => h (List.mem_cons_of_mem _ z)
theorem wipeS_get {S : Slots} {j : Nat} : ∀ {vs : List Nat}, j ∉ vs → (wipeS S vs)[j]? = S[j]?
  | [], _ => rfl
  | v :: vs, h => by
    unfold wipeS
    rw [List.getElem?_set_ne (fun z => h (by rw [z]; exact List.mem_cons_self))]
    exact wipeS_get fun z => h (List.mem_cons_of_mem _ z)
theorem wipe_in {σ : St} {j : Nat} : ∀ {vs : List Nat}, j ∈ vs → (wipe σ vs)[j]? = if j < σ.length then some none else none
  | v :: vs, h => by
    unfold wipe
    rw [List.getElem?_set, wipe_length]
    by_cases e : v = j
    · subst e
      rw [if_pos rfl]
    · rw [if_neg e]
      exact wipe_in (by
        rcases List.mem_cons.mp h with z | z
        · exact absurd z.symm e
        · exact z)
theorem wipe_ext {σ σ' : St} {vs : List Nat} (hl : σ'.length = σ.length) (h : ∀ j, j ∉ vs → σ'[j]? = σ[j]?) : wipe σ' vs = wipe σ vs := by
  refine List.ext_getElem? fun j => ?_
  by_cases hj : j ∈ vs
  · rw [wipe_in hj, wipe_in hj, hl]
  · rw [wipe_get hj, wipe_get hj]
    exact h j hj
theorem Env.un [Tbs] {D0 : Addr → Bool} {S : Slots} {σ : St} {C : Hp} {o : Ow} (E : Env D0 S σ C o) (i : Nat) : Env D0 (S.set i .un) (σ.set i none) C o := by
  refine ⟨by rw [List.length_set, List.length_set]; exact E.len, E.live, E.dead, fun j s h => ?_, E.nf, E.tb⟩
  by_cases e : i = j
  · subst e
    have hi : i < S.length := by
      obtain ⟨h1, _⟩ := List.getElem?_eq_some_iff.mp h
      rw [List.length_set] at h1
      exact h1
    rw [List.getElem?_set_self hi] at h
    cases h
    trivial
  · rw [List.getElem?_set_ne e] at h ⊢
    exact E.sl j s h
theorem Env.wipe [Tbs] {D0 : Addr → Bool} {S : Slots} {σ : St} {C : Hp} {o : Ow} (E : Env D0 S σ C o) : ∀ vs : List Nat, Env D0 (wipeS S vs) (L2.wipe σ vs) C o
  | [] => E
  | v :: vs => (E.wipe vs).un v
/-- the frame as it stood ahead, its sources of draws as they stand now -/
theorem Env.back [Tbs] {D0 : Addr → Bool} {S S1 : Slots} {σ σ1 : St} {H H' : Hp} {o : Ow} (E : Env D0 S σ H o) (E1 : Env D0 S1 σ1 H' o) (x : XE o H H') (hr : ∀ (j : Nat) (s : Slot), S[j]? = some s → isMut s = true → S1[j]? = some s ∧ σ1[j]? = σ[j]?) : Env D0 S σ H' o := by
  refine ⟨E.len, E1.live, E1.dead, fun i s e => ?_, E1.nf, E1.tb⟩
  have q := E.sl i s e
  have cx : ∀ a u, mutO (o a) = false → co H a = some u → co H' a = some u := fun a u hm h => by
    exact co_on (fun z q n => x a z hm q n) h
  cases hm : isMut s with
  | true =>
    obtain ⟨h1, h2⟩ := hr i s e hm
    have q1 := E1.sl i _ h1
    rw [h2] at q1
    exact q1
  | false =>
    cases s with
    | un => trivial
    | im d => obtain ⟨v, h1, h2⟩ := q; exact ⟨v, h1, h2.mono x.vw⟩
    | ol xs => obtain ⟨a, vs, h1, h2, h3, h4⟩ := q; exact ⟨a, vs, h1, h2, cx _ _ (by rw [h2]; rfl) h3, h4.mono x.vw⟩
    | od es =>
      obtain ⟨a, u, h1, h2, h3, h4⟩ := q
      exact ⟨a, u, h1, h2, cx _ _ (by rw [h2]; rfl) h3, h4.mono x.vw⟩
    | ex a dd fs => exact ⟨q.1, fun p hp => x.vw _ _ (q.2 p hp)⟩
    | rng a c => cases hm
    | ob a dx c fs => cases hm
    | ot d => obtain ⟨v, h1, h2⟩ := q; exact ⟨v, h1, h2.mono (vi_move x.vw fun a u h3 h4 => ⟨h3, cx _ _ (by rw [h3]; rfl) h4⟩)⟩
/-- the heap less one object -/
def rm (H : Hp) (D : Addr) : Hp := fun a => if a = D then none else H a
theorem rm_le {H : Hp} {D : Addr} : Le (rm H D) H := fun a u h => by
  unfold rm at h
  split at h
  · cases h
  · exact h
theorem rm_at {H : Hp} {D : Addr} : rm H D D = none := if_pos rfl
theorem rm_ne {H : Hp} {D a : Addr} (h : a ≠ D) : rm H D a = H a := if_neg h
theorem upd_rm {H : Hp} {D : Addr} {u : HO} (h : H D = some u) : upd (rm H D) D u = H := by
  funext a
  unfold upd rm
  by_cases e : a = D
  · rw [if_pos e, e, h]
  · rw [if_neg e, if_neg e]
/-- the object at D is hidden besides -/
def plus (D0 : Addr → Bool) (D : Addr) : Addr → Bool := fun a => D0 a || decide (a = D)
theorem plus_ne {D0 : Addr → Bool} {D a : Addr} (h : a ≠ D) : plus D0 D a = D0 a := by unfold plus; rw [decide_eq_false h, Bool.or_false]
theorem plus_at {D0 : Addr → Bool} {D : Addr} : plus D0 D D = true := by unfold plus; rw [decide_eq_true rfl, Bool.or_true]
theorem vt_plus {D0 : Addr → Bool} {o : Ow} {H : Hp} {D : Addr} : vt (plus D0 D) o (co H) = vt D0 o (co (rm H D)) := by
  funext a
  unfold vt
  by_cases e : a = D
  · subst e
    rw [plus_at, Bool.true_or, if_pos rfl]
    split
    · rfl
    · exact (co_non rm_at).symm
  · rw [plus_ne e]
    have : co (rm H D) a = co H a := by unfold co; rw [rm_ne e]
    rw [this]
theorem vw_plus {D0 : Addr → Bool} {o : Ow} {H : Hp} {D : Addr} : vw (plus D0 D) o (co H) = vw D0 o (co (rm H D)) := by
  funext a
  unfold vw
  by_cases e : a = D
  · subst e
    rw [plus_at, Bool.true_or, if_pos rfl]
    split
    · rfl
    · exact (co_non rm_at).symm
  · rw [plus_ne e]
    have : co (rm H D) a = co H a := by unfold co; rw [rm_ne e]
    rw [this]
theorem SlotOk.hide {D0 : Addr → Bool} {o : Ow} {H : Hp} {D : Addr} {i : Nat} {x : Option (Option V)} {s : Slot} (hD : o D = none) (h : SlotOk D0 (co (rm H D)) o i x s) : SlotOk (plus D0 D) (co H) o i x s := by
  have le : Le (co (rm H D)) (co H) := (rm_le (H := H) (D := D)).co
  exact h.move (by rw [vw_plus]; exact Le.refl _) fun a b u h1 h2 => ⟨h1, le _ _ h2⟩
theorem SlotOk.show_ {D0 : Addr → Bool} {o : Ow} {H : Hp} {D : Addr} {i : Nat} {x : Option (Option V)} {s : Slot} (hD : o D = none) (h : SlotOk (plus D0 D) (co H) o i x s) : SlotOk D0 (co (rm H D)) o i x s := by
  have ne : ∀ {a : Addr} {p : Nat × Bool}, o a = some p → a ≠ D := fun {a p} e z => by rw [z, hD] at e; cases e
  have at_ : ∀ {a : Addr} {u : HO}, a ≠ D → co H a = some u → co (rm H D) a = some u := fun {a u} n e => by
    have : co (rm H D) a = co H a := by unfold co; rw [rm_ne n]
    rw [this]; exact e
  exact h.move (by rw [vw_plus]; exact Le.refl _) fun a b u h1 h2 => ⟨h1, at_ (ne h1) h2⟩
/-- D, an object of our own making, is hidden; is shown no more -/
theorem Env.hide [Tbs] {D0 : Addr → Bool} {S : Slots} {σ : St} {H : Hp} {o : Ow} {D : Addr} {u : HO} (E : Env D0 S σ (rm H D) o) (h : H D = some u) (hu : isTup (core u) = false) (hb : isTbl u = false := by rfl) : Env (plus D0 D) S σ H o := by
  have hD := (E.new (p := D) rm_at)
  have le : Le (co (rm H D)) (co H) := (rm_le (H := H) (D := D)).co
  refine ⟨E.len, fun a p e => ?_, fun a e => ?_, fun i s e => (E.sl i s e).hide hD.2, fun a p u e h1 => E.nf a p u e (by rw [rm_ne (fun z => by rw [z, hD.2] at e; cases e)]; exact h1), E.tb.ext fun a u e => rm_le a u e⟩
  · obtain ⟨h1, w', h2, h3⟩ := E.live a p e
    have ne : a ≠ D := fun z => by rw [z, hD.2] at e; cases e
    exact ⟨by rw [plus_ne ne]; exact h1, w', le _ _ h2, h3⟩
  · by_cases z : a = D
    · subst z
      exact ⟨_, co_of h hb, hu⟩
    · rw [plus_ne z] at e
      obtain ⟨w', h2, h3⟩ := E.dead a e
      exact ⟨w', le _ _ h2, h3⟩
theorem Env.show_ [Tbs] {D0 : Addr → Bool} {S : Slots} {σ : St} {H : Hp} {o : Ow} {D : Addr} (hD0 : D0 D = false) (hD : o D = none) {w : HO} (hl : H D = some w) (E : Env (plus D0 D) S σ H o) (hx : isX w = false := by rfl) : Env D0 S σ (rm H D) o := by
  have at_ : ∀ {a : Addr} {u : HO}, a ≠ D → co H a = some u → co (rm H D) a = some u := fun {a u} n e => by
    have : co (rm H D) a = co H a := by unfold co; rw [rm_ne n]
    rw [this]; exact e
  refine ⟨E.len, fun a p e => ?_, fun a e => ?_, fun i s e => (E.sl i s e).show_ hD, fun a p u e h1 => E.nf a p u e (rm_le _ _ h1), E.tb.but fun a u h1 h2 => by
    rw [rm_ne (fun z => by rw [z, hl] at h1; cases h1; rw [hx] at h2; cases h2)]
    exact h1⟩
  · obtain ⟨h1, w', h2, h3⟩ := E.live a p e
    have ne : a ≠ D := fun z => by rw [z, hD] at e; cases e
    exact ⟨by rw [plus_ne ne] at h1; exact h1, w', at_ ne h2, h3⟩
  · have ne : a ≠ D := fun z => by rw [z, hD0] at e; cases e
    obtain ⟨w', h2, h3⟩ := E.dead a (by rw [plus_ne ne]; exact e)
    exact ⟨w', at_ ne h2, h3⟩
end
end Pu

namespace Pu
open PySem L2

/-! ### the weakest readings -/
def tW [Tbs] (W : WM) (w : WEx) : TE := fun σ H Q => ∃ (D0 : Addr → Bool) (S : Slots) (o : Ow) (A : PyData → Prop → Slots → Prop) (B : EK), Env D0 S σ H o ∧ w S A B ∧
  (∀ d c S' v H', A d c S' → Env D0 S' σ H' o → XE o H H' → Val D0 o H' v d c → Q v H') ∧ Xw W D0 σ o H B
theorem tW_snd [Tbs] {W : WM} {w : WEx} : Snd W (tW W w) w := fun D0 S σ H o A B Q E hw k kx => ⟨D0, S, o, A, B, E, hw, k, kx⟩
theorem SE.pe [Tbs] {X : Cx} {W : WM} {e : Expr} {w : WEx} (h : SE X W e w) : PE X e (tW W w) := by
  obtain ⟨t, p, s⟩ := h.ex
  exact ⟨fun pins sh σ H Q I ⟨D0, S, o, A, B, E, hw, k, kx⟩ => p.run pins sh σ H Q I (s D0 S σ H o A B Q E hw k kx)⟩
def tTW [Tbs] (W : WM) (w : WTx) : TT := fun σ H Q => ∃ (D0 : Addr → Bool) (S : Slots) (o : Ow) (A : Bool → Slots → Prop) (B : EK), Env D0 S σ H o ∧ w S A B ∧
  (∀ b S' H', A b S' → Env D0 S' σ H' o → XE o H H' → Q b H') ∧ Xw W D0 σ o H B
theorem tTW_snd [Tbs] {W : WM} {w : WTx} : SndT W (tTW W w) w := fun D0 S σ H o A B Q E hw k kx => ⟨D0, S, o, A, B, E, hw, k, kx⟩
theorem ST.pt [Tbs] {X : Cx} {W : WM} {e : Expr} {w : WTx} (h : ST X W e w) : PT X e (tTW W w) := by
  obtain ⟨t, p, s⟩ := h.ex
  exact ⟨fun pins sh σ H Q I ⟨D0, S, o, A, B, E, hw, k, kx⟩ => p.run pins sh σ H Q I (s D0 S σ H o A B Q E hw k kx)⟩
structure STs [Tbs] (X : Cx) (W : WM) (es : List Expr) (w : WTx) : Prop where
  ex : ∃ t, PTs X es t ∧ SndT W t w
theorem STs.pt [Tbs] {X : Cx} {W : WM} {es : List Expr} {w : WTx} (h : STs X W es w) : PTs X es (tTW W w) := by
  obtain ⟨t, p, s⟩ := h.ex
  exact ⟨fun pins sh σ H Q I ⟨D0, S, o, A, B, E, hw, k, kx⟩ => p.run pins sh σ H Q I (s D0 S σ H o A B Q E hw k kx)⟩
def wYes : WTx := fun S A _ => A true S
theorem sts_nil [Tbs] {X : Cx} {W : WM} : STs X W [] wYes := ⟨_, pts_nil, fun D0 S σ H o A B Q E hw k kx => k _ _ H hw E (XE.refl o H)⟩
theorem sts_one [Tbs] {X : Cx} {W : WM} {e : Expr} {w : WTx} (h : ST X W e w) : STs X W [e] w := by
  obtain ⟨t, p, s⟩ := h.ex
  exact ⟨_, pts_one p, s⟩
def gW [Tbs] (L : List Nat) (w : WTg) : TG := fun v σ H Q => ∃ (D0 : Addr → Bool) (S : Slots) (o : Ow) (d : PyData) (c : Prop) (K : Slots → Prop), Env D0 S σ H o ∧ Val D0 o H v d c ∧ w d c S K ∧
  (∀ S' σ', K S' → Env D0 S' σ' H o → Kept L S σ S' σ' → Q σ' H)
theorem gW_snd [Tbs] {L : List Nat} {w : WTg} : SndG L (gW L w) w := fun D0 S σ H o v d c K Q E V hw k => ⟨D0, S, o, d, c, K, E, V, hw, k⟩
theorem SG.pg [Tbs] {X : Cx} {tg : Expr} {L : List Nat} {w : WTg} (h : SG X tg L w) : PG X tg (gW L w) := by
  obtain ⟨t, p, s⟩ := h.ex
  exact ⟨fun pins sh σ H v u Q I r ⟨D0, S, o, d, c, K, E, V, hw, k⟩ => p.run pins sh σ H v u Q I r (s D0 S σ H o v d c K Q E V hw k)⟩

section
variable {X : Cx} {W : WM} {k : Nat} {pos : Pos}
abbrev WN (mg : Str → Option Value) : WM := ⟨mg, fun _ _ _ _ => False⟩
theorem Xw.no [Tbs] {mg : Str → Option Value} {D0 : Addr → Bool} {σ : St} {o : Ow} {H : Hp} : Xw (WN mg) D0 σ o H noX := fun _ _ _ _ _ h => h.elim
/-- within a comprehension's block nothing is raised -/
theorem At.blk [Tbs] (a : At X W k) (s : Shared) (H : Hp) (scope : Scope) (env : PySem.Env) (fp : List Addr) : At (X.blk s H scope env fp) (WN X.mg) k where
  room := a.room
  calm := a.calm
  tx := takes0
  mq := rfl
  nd := a.nd
  po := PassesOwn.never
theorem rm_upd {H : Hp} {D : Addr} {u : HO} : rm (upd H D u) D = rm H D := by
  funext a
  unfold rm upd
  by_cases e : a = D
  · rw [if_pos e, if_pos e]
  · rw [if_neg e, if_neg e, if_neg e]
theorem rm_none {H : Hp} {D : Addr} (h : H D = none) : rm H D = H := by
  funext a
  unfold rm
  by_cases e : a = D
  · rw [if_pos e, e, h]
  · rw [if_neg e]
theorem XE.rm {o : Ow} {H H' : Hp} {D : Addr} (h : XE o H H') : XE o (rm H D) (rm H' D) := fun a u m e => by
  unfold Pu.rm at e ⊢
  split at e
  · cases e
  · rename_i n
    rw [if_neg n]
    exact h a u m e
theorem lc_core [Tbs] {mg : Str → Option Value} {L vs : List Nat} {wg : WTg} {wt : WTx} {we : WEx} {J : It} {ds : List PyData} {c : Prop} {Z : (Addr → Bool) → Ow → Hp → Prop} (hL : ∀ j ∈ L, j ∈ vs) (wk : Wk J ds c Z)
    {D0 : Addr → Bool} {S1 : Slots} {σ : St} {H1 : Hp} {o : Ow} {K : List PyData → Prop → Prop} {Q : VK} (hnr : (vs.all fun j => notRng S1[j]?) = true) (z1 : Z D0 o H1) (E1 : Env D0 S1 σ H1 o) (h1 : lcL wg wt we c (wipeS S1 vs) ds [] True K)
    (kk : ∀ (acc : List PyData) (ca : Prop) (us : List V) (D : Addr) (H2 : Hp), K acc ca → Env D0 S1 σ H2 o → XE o H1 H2 → H2 D = none → Vals' D0 o H2 us acc ca → Q (.ref D) (upd H2 D (.lst us))) :
    ∀ D, H1 D = none → ∃ W : Nat → Nat → Hp → Prop, (∃ m, W 0 m (upd H1 D (.lst []))) ∧ ∀ i m H, W i m H →
      (J.stop i H ∧ Q (.ref D) H) ∨ (J.go i H ∧ ∃ Nx : Hp → Prop, (∀ H', Nx H' → ∃ m', m' < m ∧ W (i + 1) m' H') ∧ ∀ x H', J.yld i H x H' → gW L wg x (L2.wipe σ vs) H' fun σ2 H2 => L2.wipe σ2 vs = L2.wipe σ vs ∧ tTW (WN mg) wt σ2 H2 fun b H3 =>
        if b = true then tW (WN mg) we σ2 H3 fun y H4 => ∃ acc, H4 D = some (.lst acc) ∧ acc.length < sizeLine ∧ Nx (upd H4 D (.lst (acc ++ [y]))) else Nx H3) := by
  intro D hD
  have oD := (E1.new hD).2
  have dD := (E1.new hD).1
  have upW : ∀ {H' : Hp}, Z D0 o (rm H' D) → Z (plus D0 D) o H' := fun {H'} z => wk.xe _ _ _ _ _ z (fun a od u _ e => rm_le _ _ e) (by rw [vt_plus]; exact Le.refl _) (by rw [vw_plus]; exact Le.refl _)
  refine ⟨fun i m H' => m = ds.length - i ∧ i ≤ ds.length ∧ ∃ (acc : List PyData) (ca : Prop) (us : List V), H' D = some (.lst us) ∧ Vals' D0 o (rm H' D) us acc ca ∧ lcL wg wt we c (wipeS S1 vs) (ds.drop i) acc ca K ∧ Env D0 S1 σ (rm H' D) o ∧ XE o H1 (rm H' D) ∧ Z D0 o (rm H' D),
    ⟨ds.length, by simp, Nat.zero_le _, [], True, [], upd_same, ⟨.nil, fun _ => .nil⟩, h1, by rw [rm_upd, rm_none hD]; exact E1, by rw [rm_upd, rm_none hD]; exact XE.refl _ _, by rw [rm_upd, rm_none hD]; exact z1⟩, ?_⟩
  rintro i m H2 ⟨rfl, hi, acc, ca, us, eD, Vv, hl, E2, x2, z2⟩
  have hide2 : Env (plus D0 D) S1 σ H2 o := E2.hide eD rfl
  by_cases hlt : i < ds.length
  · right
    refine ⟨wk.go _ _ _ _ (upW z2) hlt, fun H' => i + 1 ≤ ds.length ∧ ∃ (acc : List PyData) (ca : Prop) (us : List V), H' D = some (.lst us) ∧ Vals' D0 o (rm H' D) us acc ca ∧ lcL wg wt we c (wipeS S1 vs) (ds.drop (i + 1)) acc ca K ∧ Env D0 S1 σ (rm H' D) o ∧ XE o H1 (rm H' D) ∧ Z D0 o (rm H' D),
      fun H' hN => ⟨ds.length - (i + 1), by omega, rfl, hN⟩, fun x H3 hy => ?_⟩
    have hd : ds[i]? = some ds[i] := List.getElem?_eq_getElem hlt
    obtain ⟨le3, Vx⟩ := wk.yld (plus D0 D) S1 σ o H2 i x H3 ds[i] (upW z2) hide2 hd hy
    have E3 : Env (plus D0 D) S1 σ H3 o := hide2.xe le3
    rw [List.drop_eq_getElem_cons hlt] at hl
    unfold lcL at hl
    refine gW_snd (plus D0 D) _ _ H3 o x ds[i] c _ _ (E3.wipe vs) Vx hl fun S4 σ4 h4 E4 k4 => ?_
    have outL : ∀ j, j ∉ vs → j ∉ L := fun j hj z => hj (hL j z)
    refine ⟨by
      have e : L2.wipe σ4 vs = L2.wipe (L2.wipe σ vs) vs := wipe_ext k4.ln fun j hj => k4.st j (outL j hj)
      rw [e]
      exact wipe_ext (wipe_length _ _) fun j hj => wipe_get hj, ?_⟩
    -- what is to hold behind a turn
    have fin : ∀ {S5 : Slots} {H5 : Hp}, Env (plus D0 D) S5 σ4 H5 o → S5 = S4 → XE o H3 H5 → H5 D = some (.lst us) ∧ XE o (rm H2 D) (rm H5 D) ∧ Env D0 S1 σ (rm H5 D) o ∧ XE o H1 (rm H5 D) ∧ Z D0 o (rm H5 D) := by
      intro S5 H5 E5 e5 x5
      subst e5
      have x25 : XE o H2 H5 := (XE.of le3).trans x5
      have xr := x25.rm (D := D)
      have eD5 : H5 D = some (.lst us) := x25 _ _ (by rw [oD]; rfl) eD rfl
      refine ⟨eD5, xr, Env.show_ dD oD eD5 (Env.back hide2 E5 x25 fun j s hj hm => ?_), x2.trans xr, wk.xe _ _ _ _ _ z2 xr.lk xr.vt xr.vw⟩
      have hj' : j ∉ vs := fun z => by
        have q := List.all_eq_true.mp hnr j z
        rw [hj] at q
        simp only [notRng, hm] at q
        cases q
      exact ⟨(k4.sl j (outL j hj')).trans ((wipeS_get hj').trans hj), (k4.st j (outL j hj')).trans (wipe_get hj')⟩
    refine tTW_snd (plus D0 D) S4 σ4 H3 o _ noX _ E4 h4 (fun b S5 H5 h5 E5 x5 => ?_) Xw.no
    obtain ⟨e5, h5⟩ := h5
    cases b with
    | true =>
      rw [if_pos rfl] at h5 ⊢
      rw [← e5] at h5
      refine tW_snd (plus D0 D) S5 σ4 H5 o _ noX _ E5 h5 (fun d ce S6 v H6 h6 E6 x6 V6 => ?_) Xw.no
      obtain ⟨e6, hlen, h6⟩ := h6
      obtain ⟨f1, f2, f3, f4, f5⟩ := fin E6 (e6.trans e5) (x5.trans x6)
      have hle : us.length < sizeLine := by rw [Vv.1.length]; exact hlen
      refine ⟨us, f1, hle, hlt, acc ++ [d], _, us ++ [v], upd_same, ?_, h6, by rw [rm_upd]; exact f3, by rw [rm_upd]; exact f4, by rw [rm_upd]; exact f5⟩
      rw [rm_upd]
      have V6' := V6.flat E6
      refine ⟨(Vv.1.mono f2.vt).append (.cons ?_ .nil), fun hc => ((Vv.2 hc.1).mono f2.vw).append (.cons ?_ .nil)⟩
      · have q := V6'.1
        rw [vt_plus] at q
        exact q
      · have q := V6'.2 hc.2
        rw [vw_plus] at q
        exact q
    | false =>
      rw [if_neg Bool.false_ne_true] at h5 ⊢
      obtain ⟨f1, f2, f3, f4, f5⟩ := fin E5 e5 x5
      exact ⟨hlt, acc, ca, us, f1, ⟨Vv.1.mono f2.vt, fun hc => (Vv.2 hc).mono f2.vw⟩, h5, f3, f4, f5⟩
  · left
    have ei : i = ds.length := by omega
    subst ei
    rw [List.drop_length] at hl
    refine ⟨wk.stop _ _ _ (upW z2), ?_⟩
    have q := kk acc ca us D (rm H2 D) hl E2 x2 rm_at Vv
    rw [upd_rm eD] at q
    exact q
theorem snd_lc [Tbs] {mg : Str → Option Value} {twi : TI} {L vs : List Nat} {wi : WLs} {wg : WTg} {wt : WTx} {we : WEx} (swi : SndI W twi wi) (hL : ∀ j ∈ L, j ∈ vs) : SndO W (tLc twi (gW L wg) (tTW (WN mg) wt) (tW (WN mg) we) vs) (wLc wi wg wt we vs) := by
  intro D0 S σ H o A B Q E hw kk kx
  refine swi D0 S σ H o _ B _ E hw (fun ds c S1 J H1 Z h1 E1 x1 wk z1 => ?_) kx
  obtain ⟨hnr, h1⟩ := h1
  exact lc_core hL wk hnr z1 E1 h1 fun acc ca us D H2 hK E2 x2 hD V => kk acc ca S1 us D H2 hK E2 (x1.trans x2) hD V
theorem so_lc [Tbs] {elt tg iter : Expr} {ifs : List Expr} {scope : Scope} {own : List (Str × Nat)} {L : List Nat} {wi : WLs} {wg : WTg} {wt : WTx} {we : WEx} (a : At X W k) (hi : SI X W tg iter wi) (ok : blkC X.N X.env.scope scope own = true)
    (hg : ∀ (s : Shared) (H : Hp) (C : Addr) (cl : List (Str × Addr)) (fp : List Addr), SG (X.blk s H scope (compEnvC scope cl C X.env) fp) tg L wg)
    (ht : ∀ (s : Shared) (H : Hp) (C : Addr) (cl : List (Str × Addr)) (fp : List Addr), At (X.blk s H scope (compEnvC scope cl C X.env) fp) (WN X.mg) k → STs (X.blk s H scope (compEnvC scope cl C X.env) fp) (WN X.mg) ifs wt)
    (he : ∀ (s : Shared) (H : Hp) (C : Addr) (cl : List (Str × Addr)) (fp : List Addr), At (X.blk s H scope (compEnvC scope cl C X.env) fp) (WN X.mg) k → SE (X.blk s H scope (compEnvC scope cl C X.env) fp) (WN X.mg) elt we)
    (hL : ∀ j ∈ L, j ∈ own.map (·.2)) (hs : ∀ x, foldedSetIterable iter X.env x = pure x := by intro _; rfl) : SO X W (.ListComp elt [⟨tg, iter, ifs, 0⟩] scope pos) (wLc wi wg wt we (own.map (·.2))) := by
  obtain ⟨twi, pwi, swi⟩ := hi.ex
  refine ⟨_, pe_lc a.calm a.nd pwi (blkOk_by ok) (fun s H C cl fp => (hg s H C cl fp).pg) (fun s H C cl fp => (ht s H C cl fp (a.blk ..)).pt) (fun s H C cl fp => (he s H C cl fp (a.blk ..)).pe) hs, snd_lc swi hL⟩
end
end Pu

namespace Pu
open PySem L2

/-! ### statements -/
structure En where
  nx : Slots → Prop
  rt : PyData → Prop → Slots → Prop
  bk : Slots → Prop
  ct : Slots → Prop
  ex : EK
abbrev WS := Slots → En → Prop
structure Goes [Tbs] (W : WM) (D0 : Addr → Bool) (o : Ow) (H : Hp) (P : En) (D : Ends) : Prop where
  nx : ∀ S' σ' H' o', P.nx S' → Env D0 S' σ' H' o' → Fr o H o' H' → D.nx σ' H'
  bk : ∀ S' σ' H' o', P.bk S' → Env D0 S' σ' H' o' → Fr o H o' H' → D.bk σ' H'
  ct : ∀ S' σ' H' o', P.ct S' → Env D0 S' σ' H' o' → Fr o H o' H' → D.ct σ' H'
  rt : ∀ d c S' v σ' H' o', P.rt d c S' → Env D0 S' σ' H' o' → Fr o H o' H' → Val D0 o' H' v d c → D.rt v H'
  ex : ∀ x S' σ' cls dd H' o', P.ex x S' → Env D0 S' σ' H' o' → Fr o H o' H' → XOk W.mg H' x cls dd → W.w cls dd σ' H'
def SndS [Tbs] (W : WM) (t : TS) (w : WS) : Prop := ∀ (D0 : Addr → Bool) (S : Slots) (σ : St) (H : Hp) (o : Ow) (P : En) (D : Ends), Env D0 S σ H o → w S P → Goes W D0 o H P D → t D σ H
structure SS [Tbs] (X : Cx) (W : WM) (st : Stmt) (w : WS) : Prop where
  ex : ∃ t, PS X st t ∧ SndS W t w
structure SSs [Tbs] (X : Cx) (W : WM) (st : List Stmt) (w : WS) : Prop where
  ex : ∃ t, PSs X st t ∧ SndS W t w
theorem Goes.on [Tbs] {W : WM} {D0 : Addr → Bool} {o o1 : Ow} {H H1 : Hp} {P : En} {D : Ends} (g : Goes W D0 o H P D) (f : Fr o H o1 H1) : Goes W D0 o1 H1 P D :=
  ⟨fun a b c d e E q => g.nx a b c d e E (f.trans q), fun a b c d e E q => g.bk a b c d e E (f.trans q), fun a b c d e E q => g.ct a b c d e E (f.trans q),
    fun a b c d e f' g' h E q => g.rt a b c d e f' g' h E (f.trans q), fun a b c d e f' g' h E q => g.ex a b c d e f' g' h E (f.trans q)⟩
theorem Goes.xw [Tbs] {W : WM} {D0 : Addr → Bool} {o : Ow} {H : Hp} {P : En} {D : Ends} (g : Goes W D0 o H P D) {σ : St} : Xw W D0 σ o H P.ex :=
  fun x S' cls dd H' h E q ok => g.ex x S' σ cls dd H' o h E q.fr ok
theorem Fr.vw {D0 : Addr → Bool} {o o' : Ow} {H H' : Hp} (f : Fr o H o' H') : Le (vw D0 o (co H)) (vw D0 o' (co H')) := fun a u e => by
  unfold Pu.vw at e ⊢
  split at e
  · cases e
  · rename_i hn
    have hd : D0 a = false := by
      cases q : D0 a with
      | false => rfl
      | true => exact absurd (by rw [q, Bool.true_or]) hn
    have ho : o a = none := by
      cases q : o a with
      | none => rfl
      | some p => exact absurd (by rw [q]; simp) hn
    obtain ⟨z, q, nt, rfl⟩ := co_inv e
    obtain ⟨h1, h2⟩ := f a z ho q nt
    rw [hd, h2, if_neg (by simp)]
    exact co_of h1 nt

section
variable {X : Cx} {W : WM} {k : Nat} {pos : Pos}
def wSkip : WS := fun S P => P.nx S
def wSeq (w1 w2 : WS) : WS := fun S P => w1 S { P with nx := fun S1 => w2 S1 P }
theorem sss_nil [Tbs] : SSs X W [] wSkip := ⟨_, pss_nil, fun D0 S σ H o P D E hw g => g.nx S σ H o hw E (Fr.refl _ _)⟩
theorem sss_one [Tbs] {st : Stmt} {w : WS} (h : SS X W st w) : SSs X W [st] w := by
  obtain ⟨t, p, s⟩ := h.ex
  exact ⟨_, pss_one p, s⟩
theorem sss_cons [Tbs] {st : Stmt} {rest : List Stmt} {w1 w2 : WS} (h1 : SS X W st w1) (h2 : SSs X W rest w2) : SSs X W (st :: rest) (wSeq w1 w2) := by
  obtain ⟨t1, p1, s1⟩ := h1.ex
  obtain ⟨t2, p2, s2⟩ := h2.ex
  refine ⟨_, pss_cons p1 p2, ?_⟩
  intro D0 S σ H o P D E hw g
  refine s1 D0 S σ H o _ _ E hw ⟨fun S' σ' H' o' h E' f => ?_, g.bk, g.ct, g.rt, g.ex⟩
  exact s2 D0 S' σ' H' o' P D E' h (g.on f)
theorem ss_pass [Tbs] : SS X W (.Pass pos) wSkip := ⟨_, ps_pass, fun D0 S σ H o P D E hw g => g.nx S σ H o hw E (Fr.refl _ _)⟩

/-! names -/
def wSet (i : Nat) (we : WEx) : WS := fun S P => we S (fun d c S1 => (c ∨ flat d = true) ∧ P.nx (S1.set i (.im d))) P.ex
theorem ss_set [Tbs] (i : Nat) {x : Str} {e : Expr} {p : Pos} {we : WEx} (a : At X W k) (he : SE X W e we) (hi : X.N[i]? = some x := by rfl) (hx : Loc X.env.scope x := by first | exact Or.inl rfl | exact Or.inr rfl) (hs : swapsWith e (some (.Name x p)) pos.line X.env = pure false := by rfl) (hf : X.fn x = true ∨ X.env.scope.names.lookup x = some .local := by first | exact .inl rfl | exact .inr rfl) :
    SS X W (.Assign [.Name x p] e pos) (wSet i we) := by
  obtain ⟨te, pe, se⟩ := he.ex
  refine ⟨_, ps_set a.nd hi hx pe hs hf, ?_⟩
  intro D0 S σ H o P D E hw g
  refine se D0 S σ H o _ P.ex _ E hw (fun d c S1 v H1 h1 E1 x1 V1 => ?_) g.xw
  exact g.nx _ _ _ _ h1.2 (E1.put i ((V1.flat E1).2 h1.1)) x1.fr
/-- slot i is this frame's own list -/
def ow1 (o : Ow) (p : Addr) (i : Nat) : Ow := fun a => if a = p then some (i, false) else o a
theorem vw_ow {D0 : Addr → Bool} {o : Ow} {H : Hp} {p : Addr} {i : Nat} {u : HO} (h : H p = none) : vw D0 (ow1 o p i) (co (upd H p u)) = vw D0 o (co H) := by
  funext a
  unfold vw ow1
  by_cases e : a = p
  · subst e
    rw [if_pos rfl]
    show (if (D0 a || true) = true then none else _) = _
    rw [Bool.or_true, if_pos rfl]
    split
    · rfl
    · exact (co_non h).symm
  · rw [if_neg e, co_ne e]
theorem nf_own [Tbs] {D0 : Addr → Bool} {S : Slots} {σ : St} {H : Hp} {o : Ow} {p : Addr} {i : Nat} {w : HO} (E : Env D0 S σ H o) (h : H p = none) (hw : isFrz w = false) : ∀ a q u, ow1 o p i a = some q → upd H p w a = some u → isFrz u = false := fun a q u e h1 => by
  by_cases z : a = p
  · subst z
    rw [upd_same] at h1
    cases h1
    exact hw
  · rw [upd_ne z] at h1
    have e' : o a = some q := by
      have : ow1 o p i a = o a := if_neg z
      rw [this] at e; exact e
    exact E.nf a q u e' h1
theorem Env.own [Tbs] {D0 : Addr → Bool} {S : Slots} {σ : St} {H : Hp} {o : Ow} {p : Addr} {vs : List V} {ds : List PyData} (E : Env D0 S σ H o) (i : Nat) (h : H p = none) (r : RpAll (vw D0 o (co H)) vs ds) :
    Env D0 (S.set i (.ol ds)) (σ.set i (some (.ref p))) (upd H p (.lst vs)) (ow1 o p i) := by
  have nw := E.new h
  have le : Le (co H) (co (upd H p (.lst vs))) := (Lh.new h).co
  have oe : ∀ {a : Addr}, a ≠ p → ow1 o p i a = o a := fun {a} n => if_neg n
  have ne : ∀ {a : Addr} {q : Nat × Bool}, o a = some q → a ≠ p := fun {a q} e z => by rw [z, nw.2] at e; cases e
  refine ⟨by rw [List.length_set, List.length_set]; exact E.len, fun a q e => ?_, fun a e => ?_, fun j s e => ?_, nf_own E h rfl, (Lh.new h).tb E.tb⟩
  · by_cases z : a = p
    · subst z
      exact ⟨nw.1, _, co_of upd_same, rfl⟩
    · rw [oe z] at e
      obtain ⟨h1, u, h2, h3⟩ := E.live a q e
      exact ⟨h1, u, le _ _ h2, h3⟩
  · obtain ⟨u, h2, h3⟩ := E.dead a e
    exact ⟨u, le _ _ h2, h3⟩
  · by_cases z : i = j
    · subst z
      have hi : i < S.length := by
        obtain ⟨h1, _⟩ := List.getElem?_eq_some_iff.mp e
        rw [List.length_set] at h1
        exact h1
      rw [List.getElem?_set_self hi] at e
      cases e
      exact ⟨p, vs, by rw [List.getElem?_set_self (by rw [E.len]; exact hi)], if_pos rfl, co_of upd_same, by rw [vw_ow h]; exact r⟩
    · rw [List.getElem?_set_ne z] at e ⊢
      exact (E.sl j s e).move (by rw [vw_ow h]; exact Le.refl _) fun a b u h1 h2 => ⟨by rw [oe (ne h1)]; exact h1, le _ _ h2⟩
theorem fr_own {D0 : Addr → Bool} {S : Slots} {σ : St} {H : Hp} {o : Ow} {p : Addr} {i : Nat} {u : HO} (h : H p = none) : Fr o H (ow1 o p i) (upd H p u) := fun a x n e _ => by
  have ne := ne_of_none e h
  exact ⟨by rw [upd_ne ne]; exact e, by show (if a = p then _ else _) = _; rw [if_neg ne]; exact n⟩
def wOwn (i : Nat) (wo : WLs) : WS := fun S P => wo S (fun ds c S1 => (c ∨ flats ds = true) ∧ P.nx (S1.set i (.ol ds))) P.ex
theorem Vals'.clean [Tbs] {D0 : Addr → Bool} {S : Slots} {σ : St} {H : Hp} {o : Ow} {vs : List V} {ds : List PyData} {c : Prop} (E : Env D0 S σ H o) (h : Vals' D0 o H vs ds c) (hc : c ∨ flats ds = true) : RpAll (Pu.vw D0 o (co H)) vs ds :=
  hc.elim h.2 fun f => h.1.flat E.vtw f
theorem ss_own [Tbs] (i : Nat) {x : Str} {e : Expr} {p : Pos} {wo : WLs} (a : At X W k) (he : SO X W e wo) (hi : X.N[i]? = some x := by rfl) (hx : Loc X.env.scope x := by first | exact Or.inl rfl | exact Or.inr rfl) (hs : swapsWith e (some (.Name x p)) pos.line X.env = pure false := by rfl) (hf : X.fn x = true ∨ X.env.scope.names.lookup x = some .local := by first | exact .inl rfl | exact .inr rfl) :
    SS X W (.Assign [.Name x p] e pos) (wOwn i wo) := by
  obtain ⟨te, pe, se⟩ := he.ex
  refine ⟨_, ps_set a.nd hi hx pe hs hf, ?_⟩
  intro D0 S σ H o P D E hw g
  refine se D0 S σ H o _ P.ex _ E hw (fun ds c S1 vs q H1 h1 E1 x1 hq V1 => ?_) g.xw
  exact g.nx _ _ _ _ h1.2 (E1.own i hq (V1.clean E1 h1.1)) (x1.fr.trans (fr_own (D0 := D0) (S := S1) (σ := σ) hq))
/-- targets of any kind -/
def wAsg (we : WEx) (wg : WTg) : WS := fun S P => we S (fun d c S1 => wg d c S1 P.nx) P.ex
theorem ss_asg [Tbs] {tg e : Expr} {L : List Nat} {we : WEx} {wg : WTg} (he : SE X W e we) (hg : SG X tg L wg) (hs : swapsWithSole [tg] e pos.line X.env = pure false := by rfl) (hw : swappedStores [tg] e X.env = pure none := by rfl)
    (h1 : (assignEach [tg] X.env).map (·.2) = [assign tg X.env] := by rfl) : SS X W (.Assign [tg] e pos) (wAsg we wg) := by
  obtain ⟨te, pe, se⟩ := he.ex
  obtain ⟨gg, pg, sg⟩ := hg.ex
  refine ⟨_, ps_asg pe pg hs hw h1, ?_⟩
  intro D0 S σ H o P D E hw g
  refine se D0 S σ H o _ P.ex _ E hw (fun d c S1 v H1 h1 E1 x1 V1 => ?_) g.xw
  exact sg D0 S1 σ H1 o v d c _ _ E1 V1 h1 fun S2 σ2 h2 E2 _ => g.nx _ _ _ _ h2 E2 x1.fr
def wPar (i j : Nat) (wa : WLs) : WS := fun S P => wa S (fun ds c S1 => match ds with
  | [x, y] => (c ∨ flats [x, y] = true) ∧ P.nx ((S1.set i (.im x)).set j (.im y))
  | _ => False) P.ex
theorem ss_par [Tbs] (i j : Nat) {x y : Str} {e1 e2 : Expr} {px py pt : Pos} {kt k2 pt2} {wa : WLs} (a : At X W k) (ha : SA X W [e1, e2] wa) (hi : X.N[i]? = some x := by rfl) (hj : X.N[j]? = some y := by rfl) (hij : i ≠ j := by decide)
    (hx : X.env.scope.names.lookup x = some .local := by rfl) (hy : X.env.scope.names.lookup y = some .local := by rfl)
    (hw : swappedStores [.Tuple [.Name x px, .Name y py] kt pt] (.Tuple [e1, e2] k2 pt2) X.env = pure (some [x, y]) := by rfl)
    (hs : swapsWithSole [.Tuple [.Name x px, .Name y py] kt pt] (.Tuple [e1, e2] k2 pt2) pos.line X.env = pure false := by rfl) :
    SS X W (.Assign [.Tuple [.Name x px, .Name y py] kt pt] (.Tuple [e1, e2] k2 pt2) pos) (wPar i j wa) := by
  obtain ⟨ta, pa, sa⟩ := ha.ex
  refine ⟨_, ps_par a.calm a.nd hi hj hij hx hy pa hw hs, ?_⟩
  intro D0 S σ H o P D E hw g
  refine sa D0 S σ H o _ P.ex _ E hw (fun ds c S1 vs H1 hl h1 E1 x1 V1 => ?_) g.xw
  split at h1
  · have q := V1.clean E1 h1.1
    cases q with
    | cons r1 q =>
      cases q with
      | cons r2 q =>
        cases q
        exact ⟨_, _, rfl, g.nx _ _ _ _ h1.2 ((E1.put i r1).put j r2) x1.fr⟩
  · exact h1.elim
def wAug (i : Nat) (g : R2D) (we : WEx) : WS := fun S P => match S[i]? with
  | some (.im d) => we S (fun y cy S1 => g d True y cy fun z cz => (cz ∨ flat z = true) ∧ P.nx (S1.set i (.im z))) P.ex
  | _ => False
theorem ss_aug [Tbs] (i : Nat) {x : Str} {e : Expr} {p : Pos} {op : Operator} {g : R2D} {we : WEx} (a : At X W k) (ho : Op2 X (inplaceOp op) g) (he : SE X W e we) (hi : X.N[i]? = some x := by rfl) (hx : Loc X.env.scope x := by first | exact Or.inl rfl | exact Or.inr rfl) (hf : X.fn x = true ∨ X.env.scope.names.lookup x = some .local := by first | exact .inl rfl | exact .inr rfl) :
    SS X W (.AugAssign (.Name x p) op e pos) (wAug i g we) := by
  obtain ⟨te, pe, se⟩ := he.ex
  obtain ⟨r, hr, h⟩ := ho.ex
  refine ⟨_, ps_aug (ti := r) a.nd hi hx pe hr hf, ?_⟩
  intro D0 S σ H o P D E hw gg
  unfold wAug at hw
  split at hw
  · rename_i d hs
    obtain ⟨v, h1, h2⟩ := E.sl i _ hs
    refine ⟨v, h1, se D0 S σ H o _ P.ex _ E hw (fun y cy S1 u H1 h3 E1 x1 V1 => ?_) gg.xw⟩
    refine h D0 S1 σ o H1 v u d y True cy _ _ E1 ((Val.of h2).mono x1) V1 h3 fun z dz cz H' hz le V => ?_
    have E2 := E1.xe le
    exact gg.nx _ _ _ _ hz.2 (E2.put i ((V.flat E2).2 hz.1)) (x1.trans (XE.of le)).fr
  · exact hw.elim
def gIadd : R2D := gI (fun _ _ => True) fun i j => .int (i + j)
theorem o_iadd [Tbs] : Op2 X (inplaceOp .Add) gIadd := op2_I0 iop_add fun _ _ _ => .int _
theorem o_imul [Tbs] : Op2 X (inplaceOp .Mult) gMulS := op2_I iop_mul fun _ _ _ => .int _
theorem o_idiv [Tbs] : Op2 X (inplaceOp .FloorDiv) gDiv := op2_I iop_fdivW fun _ _ _ => .int _

/-! an expression alone; return; if -/
def wDrop (we : WEx) : WS := fun S P => we S (fun _ _ S1 => P.nx S1) P.ex
theorem ss_expr [Tbs] {e : Expr} {we : WEx} (he : SE X W e we) (hs : swapsWith e none pos.line X.env = pure false := by rfl) : SS X W (.Expr e pos) (wDrop we) := by
  obtain ⟨te, pe, se⟩ := he.ex
  refine ⟨_, ps_expr pe hs, ?_⟩
  intro D0 S σ H o P D E hw g
  exact se D0 S σ H o _ P.ex _ E hw (fun d c S1 v H1 h1 E1 x1 V1 => g.nx _ _ _ _ h1 E1 x1.fr) g.xw
def wRet (we : WEx) : WS := fun S P => we S P.rt P.ex
theorem ss_ret [Tbs] {e : Expr} {we : WEx} (he : SE X W e we) : SS X W (.Return (some e) pos) (wRet we) := by
  obtain ⟨te, pe, se⟩ := he.ex
  refine ⟨_, ps_ret pe, ?_⟩
  intro D0 S σ H o P D E hw g
  exact se D0 S σ H o _ P.ex _ E hw (fun d c S1 v H1 h1 E1 x1 V1 => g.rt _ _ _ _ _ _ _ h1 E1 x1.fr V1) g.xw
def wIfS (wt : WTx) (w1 w2 : WS) : WS := fun S P => wt S (fun b S1 => if b = true then w1 S1 P else w2 S1 P) P.ex
theorem ss_if [Tbs] {c : Expr} {a b : List Stmt} {wt : WTx} {w1 w2 : WS} (hc : ST X W c wt) (ha : SSs X W a w1) (hb : SSs X W b w2) : SS X W (.If c a b pos) (wIfS wt w1 w2) := by
  obtain ⟨tc, pc, sc⟩ := hc.ex
  obtain ⟨ta, pa, sa⟩ := ha.ex
  obtain ⟨tb, pb, sb⟩ := hb.ex
  refine ⟨_, ps_if pc pa pb, ?_⟩
  intro D0 S σ H o P D E hw g
  refine sc D0 S σ H o _ P.ex _ E hw (fun b S1 H1 h1 E1 x1 => ?_) g.xw
  cases b with
  | true => exact sa D0 S1 σ H1 o P D E1 h1 (g.on x1.fr)
  | false => exact sb D0 S1 σ H1 o P D E1 h1 (g.on x1.fr)

/-! loops -/
def forL (wg : WTg) (wb : WS) (c : Prop) (P : En) : List PyData → Slots → Prop
  | [], S => P.nx S
  | d :: r, S => wg d c S fun S1 => wb S1 { P with nx := forL wg wb c P r, ct := forL wg wb c P r, bk := P.nx }
def wFor (wi : WLs) (wg : WTg) (wb : WS) : WS := fun S P => wi S (fun ds c S1 => c ∧ forL wg wb c P ds S1) P.ex
theorem for_core [Tbs] {L : List Nat} {gg : TG} {tb : TS} {wg : WTg} {wb : WS} {J : It} {ds : List PyData} {c : Prop} {Z : (Addr → Bool) → Ow → Hp → Prop} (sg : SndG L gg wg) (sb : SndS W tb wb) (wk : Wk J ds c Z)
    {D0 : Addr → Bool} {S1 : Slots} {σ : St} {H1 : Hp} {o : Ow} {P : En} {D : Ends} (hc : c) (z1 : Z D0 o H1) (E1 : Env D0 S1 σ H1 o) (h1 : forL wg wb c P ds S1) (g : Goes W D0 o H1 P D) :
    ∃ W' : Nat → Nat → St → Hp → Prop, (∃ m, W' 0 m σ H1) ∧ ∀ i m σ H, W' i m σ H →
      (J.stop i H ∧ D.nx σ H) ∨ (J.go i H ∧ ∃ N : St → Hp → Prop, (∀ σ' H', N σ' H' → ∃ m', m' < m ∧ W' (i + 1) m' σ' H') ∧ ∀ x H', J.yld i H x H' → gg x σ H' fun σ2 H2 => tb { D with nx := N, ct := N, bk := D.nx } σ2 H2) := by
  refine ⟨fun i m σ' H' => m = ds.length - i ∧ i ≤ ds.length ∧ ∃ (S' : Slots) (o' : Ow), forL wg wb c P (ds.drop i) S' ∧ Env D0 S' σ' H' o' ∧ Fr o H1 o' H' ∧ Z D0 o' H', ⟨ds.length, by simp, Nat.zero_le _, S1, o, h1, E1, Fr.refl _ _, z1⟩, ?_⟩
  rintro i m σ2 H2 ⟨rfl, hi, S2, o2, h2, E2, f2, z2⟩
  by_cases hlt : i < ds.length
  · right
    refine ⟨wk.go _ _ _ _ z2 hlt, fun σ' H' => i + 1 ≤ ds.length ∧ ∃ (S' : Slots) (o' : Ow), forL wg wb c P (ds.drop (i + 1)) S' ∧ Env D0 S' σ' H' o' ∧ Fr o H1 o' H' ∧ Z D0 o' H', fun σ' H' hN => ⟨ds.length - (i + 1), by omega, rfl, hN⟩, fun x H3 hy => ?_⟩
    obtain ⟨le3, Vx⟩ := wk.yld D0 S2 σ2 o2 H2 i x H3 ds[i] z2 E2 (List.getElem?_eq_getElem hlt) hy
    rw [List.drop_eq_getElem_cons hlt] at h2
    unfold forL at h2
    refine sg D0 S2 σ2 H3 o2 x ds[i] c _ _ (E2.xe le3) Vx h2 fun S4 σ4 h4 E4 _ => ?_
    have f3 : Fr o H1 o2 H3 := f2.trans (XE.of le3).fr
    have z3 : Z D0 o2 H3 := wk.fr _ _ _ _ _ hc z2 (XE.of le3).fr (XE.of le3).vw
    have turn : ∀ S' σ' H' o', forL wg wb c P (ds.drop (i + 1)) S' → Env D0 S' σ' H' o' → Fr o2 H3 o' H' → i + 1 ≤ ds.length ∧ ∃ (S' : Slots) (o' : Ow), forL wg wb c P (ds.drop (i + 1)) S' ∧ Env D0 S' σ' H' o' ∧ Fr o H1 o' H' ∧ Z D0 o' H' :=
      fun S' σ' H' o' h E' f => ⟨hlt, S', o', h, E', f3.trans f, wk.fr _ _ _ _ _ hc z3 f f.vw⟩
    exact sb D0 S4 σ4 H3 o2 _ _ E4 h4 ⟨turn, fun S' σ' H' o' h E' f => g.nx S' σ' H' o' h E' (f3.trans f), turn,
      fun d c' S' v σ' H' o' h E' f V => g.rt d c' S' v σ' H' o' h E' (f3.trans f) V, fun x' S' σ' cls dd H' o' h E' f ok => g.ex x' S' σ' cls dd H' o' h E' (f3.trans f) ok⟩
  · left
    have ei : i = ds.length := by omega
    subst ei
    rw [List.drop_length] at h2
    exact ⟨wk.stop _ _ _ z2, g.nx _ _ _ _ h2 E2 f2⟩
theorem ss_for [Tbs] {tg iter : Expr} {body : List Stmt} {L : List Nat} {wi : WLs} {wg : WTg} {wb : WS} (a : At X W k) (hi : SI X W tg iter wi) (hg : SG X tg L wg) (hb : SSs X W body wb)
    (hs : ∀ x, foldedSetIterable iter X.env x = pure x := by intro _; rfl) : SS X W (.For tg iter body [] pos) (wFor wi wg wb) := by
  obtain ⟨twi, pwi, swi⟩ := hi.ex
  obtain ⟨gg, pg, sg⟩ := hg.ex
  obtain ⟨tb, pb, sb⟩ := hb.ex
  refine ⟨_, ps_for a.po a.calm pwi pg pb hs, ?_⟩
  intro D0 S σ H o P D E hw g
  refine swi D0 S σ H o _ P.ex _ E hw (fun ds c S1 J H1 Z h1 E1 x1 wk z1 => ?_) g.xw
  exact for_core sg sb wk h1.1 z1 E1 h1.2 (g.on x1.fr)
def whL (wt : WTx) (wb : WS) (P : En) : Nat → Slots → Prop
  | 0, _ => False
  | n + 1, S => wt S (fun b S1 => if b = true then wb S1 { P with nx := whL wt wb P n, ct := whL wt wb P n, bk := P.nx } else P.nx S1) P.ex
def wWh (wt : WTx) (wb : WS) : WS := fun S P => ∃ n, whL wt wb P n S
theorem ss_while [Tbs] {c : Expr} {body : List Stmt} {wt : WTx} {wb : WS} (a : At X W k) (hc : ST X W c wt) (hb : SSs X W body wb) : SS X W (.While c body [] pos) (wWh wt wb) := by
  obtain ⟨tc, pc, sc⟩ := hc.ex
  obtain ⟨tb, pb, sb⟩ := hb.ex
  refine ⟨_, ps_while a.po pc pb, ?_⟩
  intro D0 S σ H o P D E hw g
  obtain ⟨n, hw⟩ := hw
  refine ⟨fun m σ' H' => ∃ (S' : Slots) (o' : Ow), whL wt wb P m S' ∧ Env D0 S' σ' H' o' ∧ Fr o H o' H', ⟨n, S, o, hw, E, Fr.refl _ _⟩, ?_⟩
  rintro m σ2 H2 ⟨S2, o2, h2, E2, f2⟩
  cases m with
  | zero => exact h2.elim
  | succ m =>
    refine sc D0 S2 σ2 H2 o2 _ P.ex _ E2 h2 (fun b S3 H3 h3 E3 x3 => ?_) (g.on f2).xw
    have f3 := f2.trans x3.fr
    cases b with
    | true =>
      rw [if_pos rfl] at h3 ⊢
      refine ⟨fun σ' H' => ∃ (S' : Slots) (o' : Ow), whL wt wb P m S' ∧ Env D0 S' σ' H' o' ∧ Fr o H o' H', fun σ' H' hN => ⟨m, Nat.lt_succ_self m, hN⟩, ?_⟩
      have turn : ∀ S' σ' H' o', whL wt wb P m S' → Env D0 S' σ' H' o' → Fr o2 H3 o' H' → ∃ (S' : Slots) (o' : Ow), whL wt wb P m S' ∧ Env D0 S' σ' H' o' ∧ Fr o H o' H' := fun S' σ' H' o' h E' f => ⟨S', o', h, E', f3.trans f⟩
      exact sb D0 S3 σ2 H3 o2 _ _ E3 h3 ⟨turn, fun S' σ' H' o' h E' f => g.nx S' σ' H' o' h E' (f3.trans f), turn,
        fun d c' S' v σ' H' o' h E' f V => g.rt d c' S' v σ' H' o' h E' (f3.trans f) V, fun x' S' σ' cls dd H' o' h E' f ok => g.ex x' S' σ' cls dd H' o' h E' (f3.trans f) ok⟩
    | false =>
      rw [if_neg Bool.false_ne_true] at h3 ⊢
      exact g.nx _ _ _ _ h3 E3 f3
end
end Pu

namespace Pu
open PySem L2
section
variable {X : Cx} {W : WM} {k : Nat} {pos : Pos}

/-! ### a list of one's own is changed -/
theorem ow_vw {D0 : Addr → Bool} {o : Ow} {H : Hp} {p : Addr} {q : Nat × Bool} {u : HO} (h : o p = some q) : vw D0 o (co (upd H p u)) = vw D0 o (co H) := by
  funext a
  unfold vw
  by_cases e : a = p
  · subst e
    rw [h]
    show (if (D0 a || true) = true then none else _) = (if (D0 a || true) = true then none else _)
    rw [Bool.or_true, if_pos rfl, if_pos rfl]
  · rw [co_ne e]
theorem Env.nf_wr [Tbs] {D0 : Addr → Bool} {S : Slots} {σ : St} {H : Hp} {o : Ow} {p : Addr} {w : HO} (E : Env D0 S σ H o) (hw : isFrz w = false) : ∀ a q u, o a = some q → upd H p w a = some u → isFrz u = false := fun a q u e h1 => by
  by_cases z : a = p
  · subst z
    rw [upd_same] at h1
    cases h1
    exact hw
  · rw [upd_ne z] at h1
    exact E.nf a q u e h1
theorem Env.wr [Tbs] {D0 : Addr → Bool} {S : Slots} {σ : St} {H : Hp} {o : Ow} {p : Addr} {i : Nat} {vs : List V} {ds : List PyData} (E : Env D0 S σ H o) (hs : i < S.length) (hσ : σ[i]? = some (some (.ref p))) (h : o p = some (i, false)) (r : RpAll (vw D0 o (co H)) vs ds) :
    Env D0 (S.set i (.ol ds)) σ (upd H p (.lst vs)) o := by
  have at_ : ∀ {a : Addr} {u : HO}, a ≠ p → co H a = some u → co (upd H p (.lst vs)) a = some u := fun {a u} n e => by rw [co_upd, upd_ne n]; exact e
  refine ⟨by rw [List.length_set]; exact E.len, fun a q e => ?_, fun a e => ?_, fun j s e => ?_, E.nf_wr rfl, E.tbU h⟩
  · by_cases z : a = p
    · subst z
      exact ⟨(E.live _ _ h).1, _, co_of upd_same, rfl⟩
    · obtain ⟨h1, u, h2, h3⟩ := E.live a q e
      exact ⟨h1, u, at_ z h2, h3⟩
  · have ne : a ≠ p := fun z => by rw [z, (E.live _ _ h).1] at e; cases e
    obtain ⟨u, h2, h3⟩ := E.dead a e
    exact ⟨u, at_ ne h2, h3⟩
  · by_cases z : i = j
    · subst z
      rw [List.getElem?_set_self hs] at e
      cases e
      exact ⟨p, vs, hσ, h, co_of upd_same, by rw [ow_vw h]; exact r⟩
    · rw [List.getElem?_set_ne z] at e
      have ne : ∀ {a : Addr} {b : Bool}, o a = some (j, b) → a ≠ p := fun {a b} e1 e2 => by rw [e2, h] at e1; cases e1; exact z rfl
      exact (E.sl j s e).move (by rw [ow_vw h]; exact Le.refl _) fun a b u h1 h2 => ⟨h1, at_ (ne h1) h2⟩
theorem fr_wr {H : Hp} {o : Ow} {p : Addr} {q : Nat × Bool} {u : HO} (h : o p = some q) : Fr o H o (upd H p u) := fun a x n e _ => by
  have ne : a ≠ p := fun z => by rw [z, h] at n; cases n
  exact ⟨by rw [upd_ne ne]; exact e, n⟩
theorem Env.lt [Tbs] {D0 : Addr → Bool} {S : Slots} {σ : St} {C : Hp} {o : Ow} (E : Env D0 S σ C o) {i : Nat} {s : Slot} (h : S[i]? = some s) : i < S.length := (List.getElem?_eq_some_iff.mp h).1
/-- x.append(e) -/
def wApp (i : Nat) (we : WEx) : WS := fun S P => (∃ xs, S[i]? = some (.ol xs)) ∧ we S (fun d c S1 => match S1[i]? with
  | some (.ol xs) => xs.length < sizeLine ∧ (c ∨ flat d = true) ∧ P.nx (S1.set i (.ol (xs ++ [d])))
  | _ => False) P.ex
theorem ss_app [Tbs] (i : Nat) {x : Str} {e : Expr} {p ap cp : Pos} {we : WEx} (he : SE X W e we) (hN : X.N[i]? = some x := by rfl) (hv : Vis X.env.scope x := by first | exact Or.inl rfl | exact Or.inr (Or.inl rfl) | exact Or.inr (Or.inr rfl))
    (hd : (x == ("__debug__" : Str)) = false := by decide) (hcd : (x == ("__classdict__" : Str)) = false := by decide)
    (hb : attributeBase (.Name x p) "append" X.env (eval (.Name x p) X.env) = eval (.Name x p) X.env := by rfl)
    (hfew : ((backTo cp (starEach [e] X.env)).all (fun x => !x.1) && (backToKw cp (keywordEach [] X.env)).all (fun x => x.1.isSome) && decide ([e].length + ([] : List Keyword).length + (if ([] : List Keyword).isEmpty then 0 else 1) < 30)) = true := by rfl)
    (hl : (ap.endLine == cp.line) = true := by rfl) (hst : starEach [e] X.env = (false, eval e X.env) :: starEach [] X.env := by rfl) (hpl : (backTo cp (starEach [] X.env)).any (·.1) = false := by rfl)
    (hsw : swapsWith (.Call (.Attribute (.Name x p) "append" ap) [e] [] cp) none pos.line X.env = pure false := by rfl) :
    SS X W (.Expr (.Call (.Attribute (.Name x p) "append" ap) [e] [] cp) pos) (wApp i we) := by
  obtain ⟨te, pe, se⟩ := he.ex
  refine ⟨_, ps_expr (pe_bm PySem.F.plainAttrs_list PySem.F.slot_list_append PySem.F.type_list_append mt_append (pe_var hN hv hd hcd) (pa_cons pe pa_nil hst) hb hfew hl hst hpl) hsw, ?_⟩
  intro D0 S σ H o P D E hw g
  obtain ⟨⟨xs0, hs0⟩, hw⟩ := hw
  obtain ⟨a, vs0, h1, h2, h3, h4⟩ := E.sl i _ hs0
  refine ⟨.ref a, h1, .inl ⟨rfl, vs0, SqL.at (co_lst h3)⟩, se D0 S σ H o _ P.ex _ E hw (fun d c S1 v H1 h5 E1 x1 V1 => ?_) g.xw⟩
  split at h5
  · rename_i xs hs1
    obtain ⟨a', vs, k1, k2, k3, k4⟩ := E1.sl i _ hs1
    rw [h1] at k1
    cases k1
    refine ⟨a, vs, v, rfl, rfl, co_lst k3, by rw [k4.length]; exact h5.1, ?_⟩
    exact g.nx _ _ _ _ h5.2.2 (E1.wr (E1.lt hs1) h1 k2 (k4.append (.cons ((V1.flat E1).2 h5.2.1) .nil))) (x1.fr.trans (fr_wr k2))
  · exact h5.elim
/-- x.extend(e), e a list -/
def wExt (i : Nat) (we : WEx) : WS := fun S P => (∃ xs, S[i]? = some (.ol xs)) ∧ we S (fun d c S1 => match d, S1[i]? with
  | .list ys, some (.ol xs) => xs.length + ys.length ≤ sizeLine ∧ (c ∨ flats ys = true) ∧ P.nx (S1.set i (.ol (xs ++ ys)))
  | _, _ => False) P.ex
theorem ss_ext [Tbs] (i : Nat) {x : Str} {e : Expr} {p ap cp : Pos} {we : WEx} (he : SE X W e we) (hN : X.N[i]? = some x := by rfl) (hv : Vis X.env.scope x := by first | exact Or.inl rfl | exact Or.inr (Or.inl rfl) | exact Or.inr (Or.inr rfl))
    (hd : (x == ("__debug__" : Str)) = false := by decide) (hcd : (x == ("__classdict__" : Str)) = false := by decide)
    (hb : attributeBase (.Name x p) "extend" X.env (eval (.Name x p) X.env) = eval (.Name x p) X.env := by rfl)
    (hfew : ((backTo cp (starEach [e] X.env)).all (fun x => !x.1) && (backToKw cp (keywordEach [] X.env)).all (fun x => x.1.isSome) && decide ([e].length + ([] : List Keyword).length + (if ([] : List Keyword).isEmpty then 0 else 1) < 30)) = true := by rfl)
    (hl : (ap.endLine == cp.line) = true := by rfl) (hst : starEach [e] X.env = (false, eval e X.env) :: starEach [] X.env := by rfl) (hpl : (backTo cp (starEach [] X.env)).any (·.1) = false := by rfl)
    (hsw : swapsWith (.Call (.Attribute (.Name x p) "extend" ap) [e] [] cp) none pos.line X.env = pure false := by rfl) :
    SS X W (.Expr (.Call (.Attribute (.Name x p) "extend" ap) [e] [] cp) pos) (wExt i we) := by
  obtain ⟨te, pe, se⟩ := he.ex
  refine ⟨_, ps_expr (pe_bm PySem.F.plainAttrs_list PySem.F.slot_list_extend PySem.F.type_list_extend mt_extend (pe_var hN hv hd hcd) (pa_cons pe pa_nil hst) hb hfew hl hst hpl) hsw, ?_⟩
  intro D0 S σ H o P D E hw g
  obtain ⟨⟨xs0, hs0⟩, hw⟩ := hw
  obtain ⟨a, vs0, h1, h2, h3, h4⟩ := E.sl i _ hs0
  refine ⟨.ref a, h1, .inl ⟨rfl, vs0, SqL.at (co_lst h3)⟩, se D0 S σ H o _ P.ex _ E hw (fun d c S1 v H1 h5 E1 x1 V1 => ?_) g.xw⟩
  split at h5
  · rename_i ys xs hs1
    obtain ⟨a', vs, k1, k2, k3, k4⟩ := E1.sl i _ hs1
    rw [h1] at k1
    cases k1
    obtain ⟨b, ws, rfl, eb, rb, cb⟩ := V1.items E1
    refine ⟨a, b, vs, ws, rfl, rfl, co_lst k3, eb, by rw [k4.length, rb.length]; exact h5.1, ?_⟩
    exact g.nx _ _ _ _ h5.2.2 (E1.wr (E1.lt hs1) h1 k2 (k4.append (cb h5.2.1))) (x1.fr.trans (fr_wr k2))
  · exact h5.elim
/-- x[j] = e -/
def wSetI (i : Nat) (we wj : WEx) : WS := fun S P => we S (fun d c S1 => (∃ xs, S1[i]? = some (.ol xs)) ∧ wj S1 (fun jd _ S2 => match jd, S2[i]? with
  | .int j, some (.ol xs) => ∃ n, ixN xs.length j = some n ∧ (c ∨ flat d = true) ∧ P.nx (S2.set i (.ol (xs.set n d)))
  | _, _ => False) P.ex) P.ex
theorem ss_setI [Tbs] (i : Nat) {x : Str} {e j : Expr} {p ap : Pos} {we wj : WEx} (he : SE X W e we) (hj : SE X W j wj) (hN : X.N[i]? = some x := by rfl) (hv : Vis X.env.scope x := by first | exact Or.inl rfl | exact Or.inr (Or.inl rfl) | exact Or.inr (Or.inr rfl))
    (hd : (x == ("__debug__" : Str)) = false := by decide) (hcd : (x == ("__classdict__" : Str)) = false := by decide)
    (ha : ∀ v, assign (.Subscript (.Name x p) j ap) X.env v = (do
      let ov ← holding [v] (eval (.Name x p) X.env)
      let iv ← holding [v, ov] (eval j X.env)
      standAt ap
      holding [v, ov, iv] (setItem ov iv v)
      release [v, ov, iv] []) := by intro _; rfl)
    (hs : swapsWithSole [.Subscript (.Name x p) j ap] e pos.line X.env = pure false := by rfl) (hw : swappedStores [.Subscript (.Name x p) j ap] e X.env = pure none := by rfl)
    (h1 : (assignEach [.Subscript (.Name x p) j ap] X.env).map (·.2) = [assign (.Subscript (.Name x p) j ap) X.env] := by rfl) : SS X W (.Assign [.Subscript (.Name x p) j ap] e pos) (wSetI i we wj) := by
  obtain ⟨te, pe, se⟩ := he.ex
  obtain ⟨tj, pj, sj⟩ := hj.ex
  refine ⟨_, ps_asg pe (pg_sub (pe_var hN hv hd hcd) pj set_list ha) hs hw h1, ?_⟩
  intro D0 S σ H o P D E hw g
  refine se D0 S σ H o _ P.ex _ E hw (fun d c S1 v H1 h1 E1 x1 V1 => ?_) g.xw
  obtain ⟨⟨xs0, hs0⟩, h1⟩ := h1
  obtain ⟨a, vs0, k1, k2, k3, k4⟩ := E1.sl i _ hs0
  refine ⟨.ref a, k1, sj D0 S1 σ H1 o _ P.ex _ E1 h1 (fun jd cj S2 jv H2 h2 E2 x2 V2 => ?_) (g.on x1.fr).xw⟩
  split at h2
  · rename_i j' xs hs1
    obtain ⟨n, hn, hc, h2⟩ := h2
    obtain ⟨a', vs, m1, m2, m3, m4⟩ := E2.sl i _ hs1
    rw [k1] at m1
    cases m1
    cases V2.1
    refine ⟨a, vs, j', n, rfl, rfl, co_lst m3, by rw [m4.length]; exact hn, ?_⟩
    have V1' := (V1.mono x2).flat E2
    exact g.nx _ _ _ _ h2 (E2.wr (E2.lt hs1) k1 m2 (RpAll.set (V1'.2 hc) n m4)) ((x1.fr.trans x2.fr).trans (fr_wr m2))
  · exact h2.elim
/-- x[j] op= e -/
def rGetL : V → V → Hp → VK → Prop := fun x y H Q => ∃ p xs i v, x = .ref p ∧ y = .int i ∧ H p = some (.lst xs) ∧ 0 ≤ i ∧ atI xs i = some v ∧ Q v H
theorem get_list : PGet X rGetL := by
  intro pins s σ H x y v u Q I rx ry h
  obtain ⟨p, xs, i, z, rfl, rfl, hp, h0, he, q⟩ := h
  cases rx
  obtain ⟨t, rfl⟩ := ry
  obtain ⟨its, n, r, ho, hz⟩ := I.lst hp
  obtain ⟨j, h1, h2, h3, h4, h5⟩ := atI_get he
  obtain ⟨w, ew, rw'⟩ := r.get h2
  have hl := r.length
  have hn := line63
  have hj : i.toNat = j := by
    rw [seqIndex_of h0 h5] at h1
    exact Option.some.inj h1
  have pl : s.heap.IsList p its.toArray := ⟨_, ho, rfl, n, rfl⟩
  exact wpAny_getItem_list pl h0 (by omega) (by rw [hj]; simpa using ew) ⟨z, H, I, rw', q⟩
def wAugI (i : Nat) (g : R2D) (wj we : WEx) : WS := fun S P => (∃ xs, S[i]? = some (.ol xs)) ∧ wj S (fun jd _ S1 => match jd, S1[i]? with
  | .int j, some (.ol xs) => 0 ≤ j ∧ ∃ d, atD xs j = some d ∧ we S1 (fun y cy S2 => g d True y cy fun z cz => match S2[i]? with
    | some (.ol ys) => ∃ n, ixN ys.length j = some n ∧ (cz ∨ flat z = true) ∧ P.nx (S2.set i (.ol (ys.set n z)))
    | _ => False) P.ex
  | _, _ => False) P.ex
theorem ss_augI [Tbs] (i : Nat) {x : Str} {e j : Expr} {op : Operator} {p ap : Pos} {g : R2D} {we wj : WEx} (ho : Op2 X (inplaceOp op) g) (hj : SE X W j wj) (he : SE X W e we) (hN : X.N[i]? = some x := by rfl) (hv : Vis X.env.scope x := by first | exact Or.inl rfl | exact Or.inr (Or.inl rfl) | exact Or.inr (Or.inr rfl))
    (hd : (x == ("__debug__" : Str)) = false := by decide) (hcd : (x == ("__classdict__" : Str)) = false := by decide)
    (ha : ∀ ov iv new, augStore j ov iv new = (do holding [new, ov, iv] (setItem ov iv new); release [new, ov, iv] []; pure .next) := by intros; rfl) :
    SS X W (.AugAssign (.Subscript (.Name x p) j ap) op e pos) (wAugI i g wj we) := by
  obtain ⟨te, pe, se⟩ := he.ex
  obtain ⟨tj, pj, sj⟩ := hj.ex
  obtain ⟨r, hr, h⟩ := ho.ex
  refine ⟨_, ps_augS (tip := r) (pe_var hN hv hd hcd) pj get_list pe hr set_list ha, ?_⟩
  intro D0 S σ H o P D E hw gg
  obtain ⟨⟨xs0, hs0⟩, hw⟩ := hw
  obtain ⟨a, vs0, k1, k2, k3, k4⟩ := E.sl i _ hs0
  refine ⟨.ref a, k1, sj D0 S σ H o _ P.ex _ E hw (fun jd cj S1 jv H1 h1 E1 x1 V1 => ?_) gg.xw⟩
  split at h1
  · rename_i j' xs hs1
    obtain ⟨h0, d, hd, h1⟩ := h1
    obtain ⟨a', vs, m1, m2, m3, m4⟩ := E1.sl i _ hs1
    rw [k1] at m1
    cases m1
    cases V1.1
    obtain ⟨v, hv, rv⟩ := rp_at m4 hd
    refine ⟨a, vs, j', v, rfl, rfl, co_lst m3, h0, hv, se D0 S1 σ H1 o _ P.ex _ E1 h1 (fun y cy S2 u H2 h2 E2 x2 V2 => ?_) (gg.on x1.fr).xw⟩
    refine h D0 S2 σ o H2 v u d y True cy _ _ E2 ((Val.of rv).mono x2) V2 h2 fun z dz cz H3 hz le V => ?_
    have E3 := E2.xe le
    split at hz
    · rename_i ys hs2
      obtain ⟨n, hn, hc, hz⟩ := hz
      obtain ⟨a', vs', q1, q2, q3, q4⟩ := E3.sl i _ hs2
      rw [k1] at q1
      cases q1
      refine ⟨a, vs', j', n, rfl, rfl, co_lst q3, by rw [q4.length]; exact hn, ?_⟩
      exact gg.nx _ _ _ _ hz (E3.wr (E3.lt hs2) k1 q2 (RpAll.set ((V.flat E3).2 hc) n q4)) ((((x1.trans x2).trans (XE.of le)).fr).trans (fr_wr q2))
    · exact hz.elim
  · exact h1.elim
theorem o_isub [Tbs] : Op2 X (inplaceOp .Sub) (gI (fun _ _ => True) fun i j => .int (i - j)) := op2_I0 iop_sub fun _ _ _ => .int _

/-! ### a def of the text keeps its promise -/
/-- the frame at a def's start -/
def startS (n : Nat) (ds : List PyData) : Slots := ds.map .im ++ List.replicate (n - ds.length) .un
theorem env_start [Tbs] {D0 : Addr → Bool} {N : List Str} {vs : List V} {ds : List PyData} {H : Hp} (tb : TbOk H) (hd : ∀ a, D0 a = true → ∃ u, co H a = some u ∧ isTup u = false) (r : RpAll (hid D0 (co H)) vs ds) : Env D0 (startS N.length ds) (L2.start N vs) H (fun _ => none) := by
  have ev : vw D0 (fun _ => none) (co H) = hid D0 (co H) := by
    funext a
    unfold vw hid
    simp
  refine ⟨?_, fun a p e => (by cases e), hd, fun i s e => ?_, fun a p u e => (by cases e), tb⟩
  · unfold startS L2.start
    simp [r.length]
  · unfold startS at e
    by_cases hi : i < ds.length
    · rw [List.getElem?_append_left (by simpa using hi), List.getElem?_map, List.getElem?_eq_getElem hi] at e
      cases e
      obtain ⟨v, h1, h2⟩ := r.get (List.getElem?_eq_getElem hi)
      refine ⟨v, ?_, by rw [ev]; exact h2⟩
      unfold L2.start
      rw [List.getElem?_append_left (by simpa [r.length] using hi), List.getElem?_map, h1]
      rfl
    · rw [List.getElem?_append_right (by simpa using hi), List.getElem?_replicate] at e
      split at e
      · cases e
        trivial
      · cases e
section
variable {P : Program} {w : World} {K : PySem.W.Frag} {mg : Str → Option Value} {base : Heap}
/-- THE RULE for a def that changes nothing -/
theorem def_ok [Tbs] {x : Str} {st : Stmt} {f : Addr} {fd : FuncData} {N ps : List Str} {k : Nat} {sp : Spc} (F : Fun K x x st f fd) (S : FnScope N ps (defScope st))
    (hb : ∀ (cdv : Value) (A : Around) (outer : List PySem.Env) (s : Shared) (H : Hp) (E : XK), At (cxOf (L2.CX P w) P w K mg base N x (defScope st) f cdv A outer s H E) ⟨mg, fun cls d _ H' => E cls d H'⟩ k →
      ∃ wb, SSs (cxOf (L2.CX P w) P w K mg base N x (defScope st) f cdv A outer s H E) ⟨mg, fun cls d _ H' => E cls d H'⟩ (defBody st) wb ∧
        ∀ ds A B, ds.length = ps.length → sp ds A B → wb (startS N.length ds) ⟨fun _ => A .none, fun d _ _ => A d, fun _ => False, fun _ => False, fun x _ => B x⟩) :
    FnOk P w K mg base (L2.CX P w) (k + 1) f fd ps (spOf mg ps.length sp) := by
  refine F.okX S (fun vs H Q E h => spOf_len h) (fun cdv A outer s H vs Q E hr h => ?_)
  obtain ⟨tb, ds, D0, A', B', hl, hd, r, hsp, hA, hB⟩ := h
  have at_ : At (cxOf (L2.CX P w) P w K mg base N x (defScope st) f cdv A outer s H E) ⟨mg, fun cls d _ H' => E cls d H'⟩ k := by
    refine ⟨hr, rfl, takes_of rfl rfl rfl rfl, rfl, S.nd, passes_of rfl⟩
  obtain ⟨wb, hp, hw⟩ := hb cdv A outer s H E at_
  obtain ⟨t, pt, st'⟩ := hp.ex
  refine ⟨t, pt, ?_⟩
  have ev : ∀ {H' : Hp} {o' : Ow} {v : V} {d : PyData}, Rp (vt D0 o' (co H')) v d → Rp (hid D0 (co H')) v d := fun {H' o' v d} q => q.mono fun a u e => by
    unfold vt at e
    unfold hid
    split at e
    · cases e
    · rename_i hn
      rw [if_neg (fun z => hn (by rw [z, Bool.true_or]))]
      exact e
  have le : ∀ {H' : Hp} {o' : Ow} {S' : Slots} {σ' : St}, Env D0 S' σ' H' o' → Fr (fun _ => none) H o' H' → Lh H H' := fun {H' o' S' σ'} E' f => ⟨fun a u e n => (f a u rfl e n).1, fun _ => E'.tb⟩
  exact st' D0 _ _ H _ _ _ (env_start tb hd r) (hw ds A' B' hl hsp)
    ⟨fun S' σ' H' o' h E' f => hA _ _ _ h (le E' f) .non, fun _ _ _ _ h => h.elim, fun _ _ _ _ h => h.elim,
      fun d c S' v σ' H' o' h E' f V => hA _ _ _ h (le E' f) (ev V.1), fun x S' σ' cls dd H' o' h E' f ok => hB x cls dd H' h (le E' f) ok⟩
end
end
end Pu

namespace Pu
open PySem L2
section
variable {X : Cx} {W : WM} {k : Nat} {pos : Pos}
theorem vals1 {D0 : Addr → Bool} {o : Ow} {H : Hp} {vs : List V} {d : PyData} {c : Prop} (h : Vals' D0 o H vs [d] c) : ∃ v, vs = [v] ∧ Val D0 o H v d c := by
  obtain ⟨h1, h2⟩ := h
  cases h1 with
  | cons a b =>
    cases b
    exact ⟨_, rfl, a, fun hc => by cases h2 hc with | cons a' _ => exact a'⟩
theorem CallR.or {f : Value} {r1 r2 : List V → Hp → VK → Prop} (h1 : CallR X f r1) (h2 : CallR X f r2) : CallR X f (fun xs H Q => r1 xs H Q ∨ r2 xs H Q) := by
  intro pins s σ H xs us Q I rx h
  rcases h with h | h
  · exact h1 pins s σ H xs us Q I rx h
  · exact h2 pins s σ H xs us Q I rx h
def gLen : RD := fun ds _ K => match ds with
  | [.list xs] => K (.int xs.length) True
  | [.tuple xs] => K (.int xs.length) True
  | [.str z] => z.length ≤ sizeLine ∧ K (.int z.length) True
  | _ => False
theorem f_len [Tbs] : Fn X (.builtin "len") gLen := by
  refine ⟨_, call_len, ?_⟩
  intro D0 S σ o H vs ds c K Q E V hg k
  unfold gLen at hg
  split at hg
  · obtain ⟨v, rfl, U⟩ := vals1 V
    obtain ⟨a, ws, rfl, e, r, _⟩ := U.items E
    refine ⟨_, ws.length, rfl, .inl ⟨ws, SqL.at e, rfl⟩, ?_⟩
    rw [r.length]
    exact k _ _ _ H hg (Lh.refl H) (Val.of (.int _))
  · obtain ⟨v, rfl, U⟩ := vals1 V
    obtain ⟨a, ws, rfl, e, r, _⟩ := U.titems E
    refine ⟨_, ws.length, rfl, .inr ⟨ws, SqT.at e, rfl⟩, ?_⟩
    rw [r.length]
    exact k _ _ _ H hg (Lh.refl H) (Val.of (.int _))
  · obtain ⟨v, rfl, U⟩ := vals1 V
    cases U.1
    exact ⟨_, _, rfl, ⟨hg.1, rfl⟩, k _ _ _ H hg.2 (Lh.refl H) (Val.of (.int _))⟩
  · exact hg.elim
def gInt : RD := fun ds _ K => match ds with
  | [.int i] => K (.int i) True
  | [.bool b] => K (.int (if b then 1 else 0)) True
  | _ => False
theorem f_int [Tbs] : Fn X (.type "int") gInt := by
  refine ⟨_, call_int1, ?_⟩
  intro D0 S σ o H vs ds c K Q E V hg k
  unfold gInt at hg
  split at hg
  · obtain ⟨v, rfl, U⟩ := vals1 V
    cases U.1
    exact .inl ⟨_, rfl, k _ _ _ H hg (Lh.refl H) (Val.of (.int _))⟩
  · obtain ⟨v, rfl, U⟩ := vals1 V
    cases U.1
    exact .inr ⟨_, rfl, k _ _ _ H hg (Lh.refl H) (Val.of (.int _))⟩
  · exact hg.elim
def gList : RDL := fun ds c K => match ds with
  | [.list xs] => K xs (c ∨ flats xs = true)
  | [.tuple xs] => K xs (c ∨ flats xs = true)
  | _ => False
theorem fo_list [Tbs] : FnO X (.type "list") gList := by
  refine ⟨_, call_list_of, ?_⟩
  intro D0 S σ o H vs ds c K Q E V hg k
  unfold gList at hg
  split at hg
  · obtain ⟨v, rfl, U⟩ := vals1 V
    obtain ⟨a, ws, rfl, e, r, rc⟩ := U.items E
    exact ⟨a, ws, rfl, .inl (SqL.at e), fun l hl => k _ _ ws l H hg (Lh.refl H) hl ⟨r, rc⟩⟩
  · obtain ⟨v, rfl, U⟩ := vals1 V
    obtain ⟨a, ws, rfl, e, r, rc⟩ := U.titems E
    exact ⟨a, ws, rfl, .inr (SqT.at e), fun l hl => k _ _ ws l H hg (Lh.refl H) hl ⟨r, rc⟩⟩
  · exact hg.elim
def gTuple : RD := fun ds c K => match ds with
  | [.list xs] => K (.tuple xs) (c ∨ flats xs = true)
  | [.tuple xs] => K (.tuple xs) c
  | _ => False
theorem f_tuple [Tbs] : Fn X (.type "tuple") gTuple := by
  refine ⟨_, call_tuple_of, ?_⟩
  intro D0 S σ o H vs ds c K Q E V hg k
  unfold gTuple at hg
  split at hg
  · obtain ⟨v, rfl, U⟩ := vals1 V
    obtain ⟨a, ws, rfl, e, r, rc⟩ := U.items E
    exact ⟨a, ws, rfl, .inl ⟨SqL.at e, fun l hl => k _ _ _ _ hg (Lh.new hl) (Val.newT E hl ⟨r, rc⟩)⟩⟩
  · obtain ⟨v, rfl, U⟩ := vals1 V
    obtain ⟨a, ws, rfl, e, r, rc⟩ := U.titems E
    exact ⟨a, ws, rfl, .inr ⟨SqT.at e, k _ _ _ H hg (Lh.refl H) U⟩⟩
  · exact hg.elim

/-! isinstance -/
def typD : PyData → String
  | .none => "NoneType"
  | .bool _ => "bool"
  | .int _ => "int"
  | .str _ => "str"
  | .list _ => "list"
  | .tuple _ => "tuple"
  | .dict _ => "dict"
def isT (T : String) (d : PyData) : Bool := match T, d with
  | "int", .int _ => true
  | "int", .bool _ => true
  | "bool", .bool _ => true
  | "str", .str _ => true
  | "list", .list _ => true
  | "tuple", .tuple _ => true
  | "dict", .dict _ => true
  | _, _ => false
theorem rp_ty {K : PySem.W.Frag} {H : Hp} {v : V} {d : PyData} (r : Rp (co H) v d) (hd : typD d ≠ "dict") : TyX K H v (.type (typD d)) := by
  cases r with
  | non => exact .base .non
  | bl b => exact .base (.bl b)
  | int i => exact .base (.int i)
  | str s => exact .base (.str s)
  | lst e _ => exact .base (.lst (co_lst e))
  | tup e _ => exact .base (.tup (co_tup e))
  | dK e _ => exact absurd rfl hd
  | dT e _ => exact absurd rfl hd
/-- T is one of the five that are asked for -/
def okT (T : String) : Bool := T == "int" || T == "bool" || T == "str" || T == "list" || T == "tuple"
def isTb (a T : String) : Bool := a == T || (a == "bool" && T == "int")
theorem kit_all : (["NoneType", "bool", "int", "str", "list", "tuple"].all fun a => ["int", "bool", "str", "list", "tuple"].all fun T => kitB a T == some (isTb a T)) = true := by decide +kernel
theorem kit_d {d : PyData} {T : String} (hd : typD d ≠ "dict") (hT : okT T = true) : kitB (typD d) T = some (isTb (typD d) T) := by
  have h := kit_all
  rw [List.all_eq_true] at h
  have hm : typD d ∈ ["NoneType", "bool", "int", "str", "list", "tuple"] := by
    cases d <;> simp [typD] at hd ⊢
  have h2 := h _ hm
  rw [List.all_eq_true] at h2
  have hT' : T ∈ ["int", "bool", "str", "list", "tuple"] := by
    simp [okT] at hT ⊢
    rcases hT with (((h | h) | h) | h) | h <;> simp [h]
  simpa using h2 T hT'
def wIsi (T : String) (we : WEx) : WEx := fun S A B => we S (fun d _ S1 => typD d ≠ "dict" ∧ A (.bool (isTb (typD d) T)) True S1) B
theorem se_isi [Tbs] {T : String} {x : Str} {p q : Pos} {e : Expr} {we : WEx} (he : SE X W e we) (hm : X.mg "isinstance" = none) (hmT : X.mg x = none) (hv : bootBuiltins x = some (.type T)) (hT : okT T = true) (hg : Gl X "isinstance" := by rfl) (hgT : Gl X x := by rfl) (hn : x ≠ "__name__" := by decide) (hdb : (x == ("__debug__" : Str)) = false := by decide)
    (hst : starEach [e, .Name x q] X.env = (false, eval e X.env) :: starEach [.Name x q] X.env := by rfl) (hst2 : starEach [.Name x q] X.env = (false, eval (.Name x q) X.env) :: starEach [] X.env := by rfl) (hpl : (backTo pos (starEach [.Name x q] X.env)).any (·.1) = false := by rfl) :
    SE X W (.Call (.Name "isinstance" p) [e, .Name x q] [] pos) (wIsi T we) := by
  obtain ⟨te, pe, se⟩ := he.ex
  refine ⟨_, pe_callB call_isi hg hm (by decide +kernel) (pa_cons pe (pa_cons (pe_bltn (v := .ty T) hgT hmT hv rfl hn hdb) pa_nil hst2) hst) (by decide) (by decide) hst hpl, ?_⟩
  intro D0 S σ H o A B Q E hw k kx
  refine se D0 S σ H o _ B _ E hw (fun d c S1 v H1 h1 E1 x1 V1 => ?_) kx
  exact ⟨v, .ty T, _, _, _, rfl, .ty T, rp_ty (V1.1.mono vt_le) h1.1, kit_ty (kit_d h1.1 hT), k _ _ S1 _ H1 h1.2 E1 x1 (Val.of (.bl _))⟩

/-! least, greatest, sum -/
def ints? : List PyData → Option (List Int)
  | [] => some []
  | .int i :: r => (ints? r).map (i :: ·)
  | _ :: _ => none
theorem ints?_map : ∀ ns : List Int, ints? (ns.map PyData.int) = some ns
  | [] => rfl
  | n :: r => by
    show (ints? (r.map PyData.int)).map (n :: ·) = _
    rw [ints?_map r]
    rfl
theorem ints?_of : ∀ {ds : List PyData} {ns : List Int}, ints? ds = some ns → ds = ns.map PyData.int
  | [], _, h => by cases h; rfl
  | .int i :: r, ns, h => by
    unfold ints? at h
    cases e : ints? r with
    | none => rw [e] at h; cases h
    | some l =>
      rw [e] at h
      cases h
      rw [ints?_of e]
      rfl
  | .none :: _, _, h => by cases h
  | .bool _ :: _, _, h => by cases h
  | .str _ :: _, _, h => by cases h
  | .list _ :: _, _, h => by cases h
  | .tuple _ :: _, _, h => by cases h
  | .dict _ :: _, _, h => by cases h
theorem alike_ints (n : Int) (ns : List Int) : PySem.W.AlikeAll ((n :: ns).map PyData.int) := by
  refine ⟨fun x hx y hy => ?_, fun x hx => ?_⟩
  · obtain ⟨a, _, rfl⟩ := List.mem_map.mp hx
    obtain ⟨b, _, rfl⟩ := List.mem_map.mp hy
    rfl
  · obtain ⟨a, _, rfl⟩ := List.mem_map.mp hx
    intro z
    cases z
theorem reads_ints {s : Heap} : ∀ {us : List Value} {ns : List Int}, PyProof.Rows.IntsAre us ns → ∃ as, ReadsAll s us (ns.map PyData.int) as
  | _, _, .nil => ⟨_, .nil⟩
  | _, _, .cons n t h => let ⟨as, r⟩ := reads_ints h; ⟨_, .cons (.int n t) r⟩
def rMxS (K : PySem.W.Frag) (f : Int → Int → Int) : List V → Hp → VK → Prop := fun vs H Q => ∃ (a : Addr) (n : Int) (ns : List Int), vs = [V.ref a] ∧ (H a = some (.lst ((n :: ns).map V.int)) ∨ H a = some (.tup ((n :: ns).map V.int))) ∧ Q (.int (ns.foldl f n)) H
theorem hu_mm {A : Around} {n : Int} {ns : List Int} (h : A.units + 64 < cLine) : A.units + 1 + PyData.depthAll ((n :: ns).map PyData.int) < cLine := by
  rw [PySem.W.depth_ints]
  omega
theorem cr_mx (a : At X W k) : CallR X (.builtin "max") (rMxS X.K max) := by
  intro pins s σ H vs us Q I r h
  obtain ⟨p, n, ns, rfl, hp, q⟩ := h
  rw [Vals.ref1 r]
  have fin : ∀ {h' : Heap} {tk : Nat} {v : Value} {bs : List Addr}, Reads h' v (PySem.W.maxD (.int n) (ns.map PyData.int)) bs → (∀ b o, s.heap.get? b = some o → h'.get? b = some o) → EP X pins σ Q v { s with heap := h', toks := tk } := fun {h' tk v bs} rd hk => by
    rw [PySem.W.maxD_ints] at rd
    cases rd
    exact ⟨.int _, H, I.kept hk, ⟨_, rfl⟩, q⟩
  rcases hp with hp | hp
  · obtain ⟨its, rv, hl, _⟩ := I.list (SqL.at hp)
    obtain ⟨as, rr⟩ := reads_ints (s := s.heap) rv.ints
    exact PySem.W.max_list_data (I.ok.hd a.calm) hl.isList (x := .int n) (xs := ns.map PyData.int) rr (alike_ints n ns) (hu_mm a.u64) fun i v h' tk bs _ rd hk => fin rd hk
  · obtain ⟨its, rv, hl, _⟩ := I.tuple (SqT.at hp)
    obtain ⟨as, rr⟩ := reads_ints (s := s.heap) rv.ints
    exact PySem.W.max_tuple_data (I.ok.hd a.calm) hl (x := .int n) (xs := ns.map PyData.int) rr (alike_ints n ns) (hu_mm a.u64) fun i v h' tk bs _ rd hk => fin rd hk
theorem cr_mn (a : At X W k) : CallR X (.builtin "min") (rMxS X.K min) := by
  intro pins s σ H vs us Q I r h
  obtain ⟨p, n, ns, rfl, hp, q⟩ := h
  rw [Vals.ref1 r]
  have fin : ∀ {h' : Heap} {tk : Nat} {v : Value} {bs : List Addr}, Reads h' v (PySem.W.minD (.int n) (ns.map PyData.int)) bs → (∀ b o, s.heap.get? b = some o → h'.get? b = some o) → EP X pins σ Q v { s with heap := h', toks := tk } := fun {h' tk v bs} rd hk => by
    rw [PySem.W.minD_ints] at rd
    cases rd
    exact ⟨.int _, H, I.kept hk, ⟨_, rfl⟩, q⟩
  rcases hp with hp | hp
  · obtain ⟨its, rv, hl, _⟩ := I.list (SqL.at hp)
    obtain ⟨as, rr⟩ := reads_ints (s := s.heap) rv.ints
    exact PySem.W.min_list_data (I.ok.hd a.calm) hl.isList (x := .int n) (xs := ns.map PyData.int) rr (alike_ints n ns) (hu_mm a.u64) fun i v h' tk bs _ rd hk => fin rd hk
  · obtain ⟨its, rv, hl, _⟩ := I.tuple (SqT.at hp)
    obtain ⟨as, rr⟩ := reads_ints (s := s.heap) rv.ints
    exact PySem.W.min_tuple_data (I.ok.hd a.calm) hl (x := .int n) (xs := ns.map PyData.int) rr (alike_ints n ns) (hu_mm a.u64) fun i v h' tk bs _ rd hk => fin rd hk
def gMM (f : Int → Int → Int) : RD := fun ds _ K => match ds with
  | [.list xs] => ∃ n ns, ints? xs = some (n :: ns) ∧ K (.int (ns.foldl f n)) True
  | [.tuple xs] => ∃ n ns, ints? xs = some (n :: ns) ∧ K (.int (ns.foldl f n)) True
  | _ => False
theorem fn_mm [Tbs] {f : Value} {g : Int → Int → Int} (h : CallR X f (rMxS X.K g)) : Fn X f (gMM g) := by
  refine ⟨_, h, ?_⟩
  intro D0 S σ o H vs ds c K Q E V hg k
  unfold gMM at hg
  split at hg
  · obtain ⟨v, rfl, U⟩ := vals1 V
    obtain ⟨a, ws, rfl, e, r, rc⟩ := U.items E
    obtain ⟨n, ns, hi, hg⟩ := hg
    rw [ints?_of hi] at r
    rw [r.ints] at e
    exact ⟨a, n, ns, rfl, .inl e, k _ _ _ H hg (Lh.refl H) (Val.of (.int _))⟩
  · obtain ⟨v, rfl, U⟩ := vals1 V
    obtain ⟨a, ws, rfl, e, r, rc⟩ := U.titems E
    obtain ⟨n, ns, hi, hg⟩ := hg
    rw [ints?_of hi] at r
    rw [r.ints] at e
    exact ⟨a, n, ns, rfl, .inr e, k _ _ _ H hg (Lh.refl H) (Val.of (.int _))⟩
  · exact hg.elim
theorem f_max [Tbs] (a : At X W k) : Fn X (.builtin "max") (gMM max) := fn_mm (cr_mx a)
theorem f_min [Tbs] (a : At X W k) : Fn X (.builtin "min") (gMM min) := fn_mm (cr_mn a)
/-- max(i, j), min(i, j) -/
def g2 (f : Int → Int → Int) : RD := fun ds _ K => match ds with
  | [.int i, .int j] => K (.int (f i j)) True
  | _ => False
theorem vals2 {D0 : Addr → Bool} {o : Ow} {H : Hp} {vs : List V} {i j : Int} {c : Prop} (h : Vals' D0 o H vs [.int i, .int j] c) : vs = [.int i, .int j] := by
  obtain ⟨h1, _⟩ := h
  cases h1 with
  | cons a b =>
    cases a
    cases b with
    | cons a b =>
      cases a
      cases b
      rfl
theorem f_max2 [Tbs] (a : At X W k) : Fn X (.builtin "max") (g2 fun i j => if j > i then j else i) := by
  refine ⟨_, call_max2 a.calm, ?_⟩
  intro D0 S σ o H vs ds c K Q E V hg k
  unfold g2 at hg
  split at hg
  · exact ⟨_, _, vals2 V, k _ _ _ H hg (Lh.refl H) (Val.of (.int _))⟩
  · exact hg.elim
theorem f_min2 [Tbs] (a : At X W k) : Fn X (.builtin "min") (g2 fun i j => if j < i then j else i) := by
  refine ⟨_, call_min2 a.calm, ?_⟩
  intro D0 S σ o H vs ds c K Q E V hg k
  unfold g2 at hg
  split at hg
  · exact ⟨_, _, vals2 V, k _ _ _ H hg (Lh.refl H) (Val.of (.int _))⟩
  · exact hg.elim

/-! sorted -/
def leD (x y : PyData) : Bool := PySem.W.dataLe false id x y
def gSorted : RDL := fun ds c K => match ds with
  | [.list xs] => xs.length ≤ sizeLine ∧ PySem.W.AllAlike xs ∧ PySem.W.Sortable xs ∧ (∀ x ∈ xs, PyData.canLay0 x = true ∧ x.depth ≤ 60) ∧ K (xs.mergeSort leD) (c ∨ flats xs = true)
  | _ => False
theorem rp_pairs {G : Hp} : ∀ {vs : List V} {ds : List PyData}, RpAll G vs ds → ∃ ps : List (V × PyData), ps.map (·.1) = vs ∧ ps.map (·.2) = ds
  | _, _, .nil => ⟨[], rfl, rfl⟩
  | _, _, .cons (v := v) (d := d) _ b => let ⟨ps, h1, h2⟩ := rp_pairs b; ⟨(v, d) :: ps, by simp [h1], by simp [h2]⟩
theorem rp_perm {G : Hp} {ps qs : List (V × PyData)} (h : ∀ p ∈ qs, p ∈ ps) (r : RpAll G (ps.map (·.1)) (ps.map (·.2))) : RpAll G (qs.map (·.1)) (qs.map (·.2)) := by
  have at_ : ∀ p ∈ ps, Rp G p.1 p.2 := by
    clear h
    induction ps with
    | nil => intro p hp; cases hp
    | cons x l ih =>
      intro p hp
      cases r with
      | cons a b =>
        rcases List.mem_cons.mp hp with z | z
        · subst z; exact a
        · exact ih b p z
  induction qs with
  | nil => exact .nil
  | cons x l ih => exact .cons (at_ x (h x List.mem_cons_self)) (ih fun p hp => h p (List.mem_cons_of_mem _ hp))
theorem each_vals : ∀ {ps : List (V × PyData)} {us : List Value}, Vals (ps.map (·.1)) us → PySem.W.EachIs (fun u p => RelV p.1 u) us ps
  | [], _, h => by cases h; exact .nil
  | p :: ps, _, h => by
    cases h with
    | cons a b => exact .cons a (each_vals b)
theorem vals_each : ∀ {ps : List (V × PyData)} {us : List Value}, PySem.W.EachIs (fun (u : Value) (p : V × PyData) => RelV p.1 u) us ps → Vals (ps.map (·.1)) us
  | _, _, .nil => .nil
  | _, _, .cons a b => .cons a (vals_each b)
theorem each_reads {pins : List (Addr × Obj)} {σ : St} {H : Hp} {s : Shared} (I : Inv X pins σ H s) : ∀ {ps : List (V × PyData)} {us : List Value}, Vals (ps.map (·.1)) us → RpAll (co H) (ps.map (·.1)) (ps.map (·.2)) → (∀ p ∈ ps, PyData.canLay0 p.2 = true) → PySem.W.EachIs (fun u p => ∃ as, Reads s.heap u p.2 as) us ps
  | [], _, h, _, _ => by cases h; exact .nil
  | p :: ps, _, h, r, c => by
    cases h with
    | cons a b =>
      cases r with
      | cons r1 r2 => exact .cons (Dp.reads I p.2 p.1 _ (Rp.dp r1 (c p List.mem_cons_self)) a) (each_reads I b r2 fun q hq => c q (List.mem_cons_of_mem _ hq))
def rSortedD : List V → Hp → VK → Prop := fun vs H Q => ∃ (a : Addr) (ps : List (V × PyData)), vs = [V.ref a] ∧ H a = some (.lst (ps.map (·.1))) ∧ RpAll (co H) (ps.map (·.1)) (ps.map (·.2)) ∧ (∀ p ∈ ps, PyData.canLay0 p.2 = true ∧ p.2.depth ≤ 60) ∧ PySem.W.AllAlike (ps.map (·.2)) ∧ PySem.W.Sortable (ps.map (·.2)) ∧
  ∀ q, H q = none → Q (.ref q) (upd H q (.lst ((ps.mergeSort (PySem.W.dataLe false (·.2))).map (·.1))))
theorem cr_sortedD (a : At X W k) : CallR X (.builtin "sorted") rSortedD := by
  intro pins s σ H vs us Q I r h
  obtain ⟨p, ps, rfl, hp, hr, hc, h1, h2, q⟩ := h
  obtain ⟨its, rv, hl, hz⟩ := I.list (SqL.at hp)
  rw [Vals.ref1 r]
  refine PySem.W.sorted_data (R := fun u p => RelV p.1 u) (bs := ps) (enc := (·.2)) hl.isList (each_vals rv) (each_reads I rv hr fun p hp => (hc p hp).1) h1 h2 (by rw [List.length_map] at hz; exact hz) (fun b hb => by have := (hc b hb).2; have := a.room.un; omega) fun out ho eo => ?_
  obtain ⟨ep, he'⟩ := PyProof.Rows.sortedAll_at s.heap its out.toArray
  refine ⟨.ref _, upd H (s.heap.objs.size + 1) (.lst ((ps.mergeSort (PySem.W.dataLe false (·.2))).map (·.1))), I.laid (t' := s.toks) (fun _ _ => PyProof.Rows.sortedAll_old) (Nat.le_succ _) ⟨?_, out, ep, vals_each eo, he'⟩, rfl, q _ (I.hok.fresh (Nat.le_succ _))⟩
  rw [List.length_map, List.length_mergeSort]
  rw [List.length_map] at hz
  exact hz
theorem sort_snd (ps : List (V × PyData)) : (ps.mergeSort (PySem.W.dataLe false fun (p : V × PyData) => p.2)).map (·.2) = (ps.map (·.2)).mergeSort leD :=
  PySem.W.sort_maps (r := PySem.W.dataLe false fun (p : V × PyData) => p.2) (s := leD) (fun p => p.2) fun _ _ _ _ => rfl
theorem fo_sorted [Tbs] (a : At X W k) : FnO X (.builtin "sorted") gSorted := by
  refine ⟨_, cr_sortedD a, ?_⟩
  intro D0 S σ o H vs ds c K Q E V hg k
  unfold gSorted at hg
  split at hg
  · obtain ⟨v, rfl, U⟩ := vals1 V
    obtain ⟨p, ws, rfl, e, r, rc⟩ := U.items E
    obtain ⟨h1, h2, h3, h4, hg⟩ := hg
    obtain ⟨ps, e1, e2⟩ := rp_pairs r
    subst e1
    subst e2
    refine ⟨p, ps, rfl, e, r.mono vt_le, fun x hx => h4 _ (List.mem_map_of_mem hx), h2, h3, fun q hq => ?_⟩
    rw [← sort_snd] at hg
    exact k _ _ _ q H hg (Lh.refl H) hq ⟨rp_perm (fun x hx => List.mem_mergeSort.mp hx) r, fun hc => rp_perm (fun x hx => List.mem_mergeSort.mp hx) (rc hc)⟩
  · exact hg.elim
end
end Pu

namespace Pu
open PySem L2

/-! ### enumerate of a tuple -/
section
variable {prog : Program} {w : World} {A : Around} {E : Value → Shared → Prop} {s : Shared}
theorem meets_enumT (t : Addr) (items : Array Value) (n : Nat) (dct : Option Addr) (sl : Array (Option Value)) :
    Meets (Builtin.«enumerate.__new__» ⟨[.type "enumerate", .ref t], []⟩) (fun _ R s => s.heap.get? t = some { cls := .type "tuple", dict := dct, data := .seq items n, slots := sl } ∧
      R (.ok (.ret (.ref (s.heap.push { cls := .type "tuple_iterator", data := .fields #[.ref t, .int 0 0] }).objs.size)))
        { s with heap := (s.heap.push { cls := .type "tuple_iterator", data := .fields #[.ref t, .int 0 0] }).push { cls := .type "enumerate", data := .fields #[.none, .bool false, .ref s.heap.objs.size, rawInt 0, .none, .none] } }) :=
  .of_wp fun prog w A R s h => by
    obtain ⟨hp, g, d, tk, os⟩ := s
    obtain ⟨hl, h⟩ := h
    have hsub := sub_enumerate
    have hT : Heap.IsTuple (Shared.heap ⟨hp, g, d, tk, os⟩) t items := ⟨_, hl, rfl, n, rfl⟩
    wp_walk using AutoSeq1.wpAny_loadPart' hl
    refine wpAny_stack_any fun st => wpAny_pure ?_
    split
    · rename_i c _ _ _ _ _
      cases (c == Value.type "enumerate") <;>
        (wp_walk using AutoSeq1.wpAny_loadPart' hl, wpAny_pyIter_tuple hT
         exact ⟨_, rfl, h⟩)
    · wp_walk using AutoSeq1.wpAny_loadPart' hl, wpAny_pyIter_tuple hT
      exact ⟨_, rfl, h⟩
theorem call_enumT {t : Addr} {items : Array Value} {Q : Value → Shared → Prop} (hL : s.heap.IsTuple t items)
    (h : ∀ h', IsEnum h' (s.heap.objs.size + 1) s.heap.objs.size 0 .none → h'.IsTupleIter s.heap.objs.size t 0 → (∀ b o, s.heap.get? b = some o → h'.get? b = some o) → Q (.ref (s.heap.objs.size + 1)) { s with heap := h' }) :
    wpAny (model prog w) A (call (.type "enumerate") [.ref t]) Q E s := by
  obtain ⟨⟨c, dct, dt, sl⟩, hl, hc, n, hd⟩ := hL
  have hc' : c = .type "tuple" := hc
  have hd' : dt = .seq items n := hd
  subst hc' hd'
  refine callType_new F.called_enumerate (by decide) (F.typeCall_enumerate_1 _) (F.newCall_enumerate_1 _) (fun obj => F.args_object_init_2 obj _) F.entry_enumerate_new (meets_enumT t items n dct sl) ⟨hl, ?_⟩
  have hz : (s.heap.push { cls := .type "tuple_iterator", data := .fields #[.ref t, .int 0 0] }).objs.size = s.heap.objs.size + 1 := Heap.size_push ..
  rw [hz]
  have he : IsEnum ((s.heap.push { cls := .type "tuple_iterator", data := .fields #[.ref t, .int 0 0] }).push { cls := .type "enumerate", data := .fields #[.none, .bool false, .ref s.heap.objs.size, rawInt 0, .none, .none] }) (s.heap.objs.size + 1) s.heap.objs.size 0 .none := by
    have q := Heap.get?_push_size (s.heap.push { cls := .type "tuple_iterator", data := .fields #[.ref t, .int 0 0] }) (o := { cls := .type "enumerate", data := .fields #[.none, .bool false, .ref s.heap.objs.size, rawInt 0, .none, .none] }) rfl
    rw [hz] at q
    exact q
  exact ⟨⟨_, he, rfl⟩, h _ he ⟨_, Heap.get?_push_of_some _ (Heap.get?_push_size _ rfl), rfl, rfl⟩ fun b o x => Heap.get?_push_of_some _ (Heap.get?_push_of_some _ x)⟩
end
/-- the tuple at a, its items in new pairs with their places -/
def Iteu (K : PySem.W.Frag) (a : Addr) : It :=
  ⟨fun i H => ∃ xs x, SqT K H a xs ∧ xs[i]? = some x, fun i H v H' => ∃ T x, v = .ref T ∧ H T = none ∧ H' = upd H T (.tup [.int (i : Int), x]) ∧ ∀ xs, SqT K H a xs → xs[i]? = some x, fun i H => ∃ xs, SqT K H a xs ∧ xs.length = i⟩
theorem turn_enumT {P : Program} {w : World} {K : PySem.W.Frag} {elts : List Expr} {kk : Nat} {tpos : Pos} (a e it : Addr) :
    Turn P w K (.Tuple elts kk tpos) (Iteu K a) [e, it] e (fun i h => (∃ old, IsEnum h e it ((i : Nat) : Int) old) ∧ h.IsTupleIter it a i ∧ e ≠ it) where
  mem := by simp
  obj := fun i h st b hb => by
    obtain ⟨⟨old, he⟩, ⟨o, ho, hc, hd⟩, _⟩ := st
    have hb2 : b = e ∨ b = it := by simpa using hb
    rcases hb2 with z | z
    · rw [z]
      exact ⟨_, he, fun v q => nomatch q⟩
    · rw [z]
      exact ⟨o, ho, fun v q => by rw [hd] at q; cases q⟩
  keep := fun i h h' st k => let ⟨⟨old, he⟩, hi, hne⟩ := st; ⟨⟨old, k e (by simp) _ he⟩, hi.at fun o q => k it (by simp) o q, hne⟩
  item := by
    intro X hP hw hK hc i pins s σ H E I hf st hg
    subst hP hw hK
    obtain ⟨⟨old, he⟩, hit, hne⟩ := st
    obtain ⟨xs, x, hq, hx⟩ := hg
    obtain ⟨its, rv, p, hz⟩ := I.tuple hq
    obtain ⟨u, hu, ru⟩ := rv.get hx
    have hel : e < s.heap.objs.size := Heap.lt_size he
    have hil : it < s.heap.objs.size := by
      obtain ⟨_, q, _⟩ := hit
      exact Heap.lt_size q
    have pT : s.heap.IsTuple a its.toArray := p
    have hea : e ≠ a := fun z => by
      obtain ⟨o, ho, hc, n, hd⟩ := pT
      rw [← z, he] at ho
      cases ho
      cases hd
    have hita : a ≠ it := fun z => by
      obtain ⟨o, ho, hc, n, hd⟩ := pT
      obtain ⟨o', ho', hc', hd'⟩ := hit
      rw [z, ho'] at ho
      cases ho
      rw [hd'] at hd
      cases hd
    have hlt : i < its.toArray.size := by
      rw [List.size_toArray]
      exact (List.getElem?_eq_some_iff.mp hu).1
    refine wpAny_pyNext_enum_itemC (Draws.tuple (prog := X.prog) (w := X.w) (A := X.A.in1) (I.ok.hd hc) it a hita its.toArray) he ⟨hit, pT⟩ hlt hne (by simp [hne, hea]) fun y h' tk hy ho hit' hT hsz hk => ?_
    have hy' : y = u := by
      have q : its.toArray[i]? = some y := hy
      rw [List.getElem?_toArray, hu] at q
      exact (Option.some.inj q).symm
    subst hy'
    refine ⟨_, rfl, wpAny_letOwnedTupleGo_enum (s := { s with heap := h', toks := tk + 1 }) ho fun h2 he2 sb => ?_⟩
    have hT2 : h2.get? s.heap.objs.size = some { cls := .type "tuple", data := .seq #[.int i tk, y] } := (sb.2 _ (Nat.ne_of_gt hel)).trans hT
    have new : ObjOk X.prog X.w (upd H s.heap.objs.size (.tup [.int (i : Nat), x])) h2 s.heap.objs.size (.tup [.int (i : Nat), x]) :=
      ⟨by show 2 ≤ sizeLine; decide, [.int i tk, y], .cons ⟨_, rfl⟩ (.cons ru .nil), ⟨_, hT2, rfl, _, rfl⟩⟩
    have I1 : Inv X pins σ (upd H s.heap.objs.size (.tup [.int (i : Nat), x])) { s with heap := h2, toks := tk + 1 } :=
      I.turnedNew (ch := [e, it]) (fun b ob hb q => (sb.2 b (fun z => hb (by simp [z]))).trans (hk b ob (fun z => hb (by simp [z])) (fun z => hb (by simp [z])) q)) hf (Nat.le_refl _) new
    refine ⟨.ref s.heap.objs.size, _, I1, rfl, ⟨_, x, rfl, I.hok.fresh (Nat.le_refl _), rfl, fun ys hy => by rw [I.tuple_inj hy hq]; exact hx⟩, ⟨⟨y, ?_⟩, hit'.1.at fun o q => (sb.2 it (Ne.symm hne)).trans q, hne⟩, fun b hb => ?_⟩
    · have e1 : ((i + 1 : Nat) : Int) = (i : Int) + 1 := by omega
      rw [e1]
      exact he2
    · have hb2 : b < s.heap.objs.size := by
        have e' : b = e ∨ b = it := by simpa using hb
        rcases e' with z | z
        · rw [z]; exact hel
        · rw [z]; exact hil
      rw [upd_ne (Nat.ne_of_lt hb2)]
      exact (hf b hb).1
  done := by
    intro X hP hw hK hc i pins s σ H E I hf st hg
    subst hP hw hK
    obtain ⟨⟨old, he⟩, hit, hne⟩ := st
    obtain ⟨xs, hq, hx⟩ := hg
    obtain ⟨its, rv, p, hz⟩ := I.tuple hq
    obtain ⟨f0, f1, f2, f3, f4, f5⟩ := hf it (by simp)
    have hl := rv.length
    have pT : s.heap.IsTuple a its.toArray := p
    have hita : a ≠ it := fun z => by
      obtain ⟨o, ho, hc, n, hd⟩ := pT
      obtain ⟨o', ho', hc', hd'⟩ := hit
      rw [z, ho'] at ho
      cases ho
      rw [hd'] at hd
      cases hd
    have D := (Draws.tuple (prog := X.prog) (w := X.w) (A := X.A.in1) (I.ok.hd hc) it a hita its.toArray)
    have hn : i = its.toArray.size := by
      rw [List.size_toArray, ← hl]
      exact hx.symm
    exact wpAny_pyNext_enum_endD D he (by rw [← hn]; exact ⟨hit, pT⟩) fun h' eb => ⟨rfl, I.turned (t' := s.toks) (fun b o hb q => eb b o hb q) f0 f1 f3 f4 f5⟩
  self := fun A i s Q E st h => let ⟨⟨_, he⟩, _⟩ := st; wpAny_pyIter_enum he h
def iEnuT (K : PySem.W.Frag) (ta : TA) : TI := fun σ H R => ta σ H fun vs H1 => ∃ a xs, vs = [.ref a] ∧ SqT K H1 a xs ∧ R (Iteu K a) H1
theorem pi_enumT {X : Cx} {e : Expr} {ta : TA} {p pos tpos : Pos} {elts : List Expr} {kk : Nat} (hg : Gl X "enumerate") (hm : X.mg "enumerate" = none) (ha : PA X [e] ta) (hs : starEach [e] X.env = [(false, eval e X.env)] := by rfl) :
    PI X (.Tuple elts kk tpos) (.Call (.Name "enumerate" p) [e] [] pos) (iEnuT X.K ta) := by
  refine ⟨fun pins s σ H R I h => ?_⟩
  refine PyProof.Rows.Call_ (ld_blt I hg hm PyProof.Rows.boot_enumerate (PyProof.Rows.callWith_type1 (thn (ha.run pos pins s σ H _ I h) fun us s1 ⟨vs, H1, I1, r1, q1⟩ => ?_) hs rfl))
  obtain ⟨a, xs, ex, hq, q⟩ := q1
  subst ex
  rw [Vals.ref1 r1]
  obtain ⟨its, rv, p', hz⟩ := I1.tuple hq
  refine call_enumT (show s1.heap.IsTuple a its.toArray from p') fun h' he hit hk => wpAny_pyIter_enum he ?_
  have I2 : Inv X pins σ H1 { s1 with heap := h' } := I1.kept (t' := s1.toks) hk
  refine ⟨s1.heap.objs.size + 1, [s1.heap.objs.size + 1, s1.heap.objs.size], _, _, H1, rfl, I2, turn_enumT a (s1.heap.objs.size + 1) s1.heap.objs.size, ⟨⟨.none, he⟩, hit, Nat.succ_ne_self _⟩, fun b hb => ?_, q⟩
  have hb2 : b = s1.heap.objs.size + 1 ∨ b = s1.heap.objs.size := by simpa using hb
  have hle : s1.heap.objs.size ≤ b := by
    rcases hb2 with z | z
    · rw [z]; exact Nat.le_succ _
    · rw [z]; exact Nat.le_refl _
  exact I1.fpOk hle (I1.hok.fresh hle)

section
variable {X : Cx} {W : WM} {k : Nat} {pos : Pos}
def enumFr (n : Nat) : List PyData → List PyData
  | [] => []
  | d :: r => .tuple [.int (n : Int), d] :: enumFr (n + 1) r
theorem enumFr_len : ∀ (ds : List PyData) (n : Nat), (enumFr n ds).length = ds.length
  | [], _ => rfl
  | d :: r, n => by
    show (enumFr (n + 1) r).length + 1 = r.length + 1
    rw [enumFr_len r]
theorem enumFr_get : ∀ {ds : List PyData} {n i : Nat} {d : PyData}, (enumFr n ds)[i]? = some d → ∃ x, ds[i]? = some x ∧ d = .tuple [.int ((n + i : Nat) : Int), x]
  | [], _, _, _, h => by simp [enumFr] at h
  | x :: r, n, 0, d, h => ⟨x, rfl, (Option.some.inj h).symm⟩
  | x :: r, n, i + 1, d, h => by
    obtain ⟨y, h1, h2⟩ := enumFr_get (ds := r) (n := n + 1) (i := i) h
    refine ⟨y, h1, ?_⟩
    rw [h2]
    have e : n + 1 + i = n + (i + 1) := by omega
    rw [e]
theorem wk_enumT [Tbs] {K : PySem.W.Frag} {a : Addr} {ds : List PyData} {c : Prop} : Wk (Iteu K a) (enumFr 0 ds) c (zT a ds c) where
  go := fun D0 o H i z hi => (wk_tup (K := K)).go D0 o H i z (by rw [enumFr_len] at hi; exact hi)
  stop := fun D0 o H z => by
    obtain ⟨b, vs, e, h, r⟩ := rp_tup z.1
    cases e
    exact ⟨vs, SqT.at (co_tup (vt_le _ _ h)), by rw [enumFr_len, r.length]⟩
  yld := fun D0 S σ o H i x H' d z E hd y => by
    obtain ⟨T, y1, rfl, nT, rfl, hy⟩ := y
    obtain ⟨x2, hx2, rfl⟩ := enumFr_get hd
    obtain ⟨le, V⟩ := (wk_tup (K := K)).yld D0 S σ o H i y1 H x2 z E hx2 ⟨rfl, hy⟩
    refine ⟨Lh.new nT, Val.newT E nT ⟨.cons ?_ (.cons V.1 .nil), fun hc => .cons ?_ (.cons (V.2 hc) .nil)⟩⟩
    · rw [Nat.zero_add]
      exact .int _
    · rw [Nat.zero_add]
      exact .int _
  xe := fun D0 D0' o H H' z _ l1 l2 => ⟨z.1.mono l1, fun hc => (z.2 hc).mono l2⟩
  fr := fun D0 o H o' H' hc z _ l => ⟨((z.2 hc).mono l).mono vw_le_vt, fun _ => (z.2 hc).mono l⟩
theorem wk_enumL [Tbs] {K : PySem.W.Frag} {a : Addr} {ds : List PyData} {c : Prop} : Wk (Ite K a) (enumFr 0 ds) c (zL a ds c) where
  go := fun D0 o H i z hi => (wk_list (K := K)).go D0 o H i z (by rw [enumFr_len] at hi; exact hi)
  stop := fun D0 o H z => by
    obtain ⟨b, vs, e, h, r⟩ := rp_lst z.1
    cases e
    exact ⟨vs, SqL.at (co_lst (vt_le _ _ h)), by rw [enumFr_len, r.length]; exact Nat.le_refl _⟩
  yld := fun D0 S σ o H i x H' d z E hd y => by
    obtain ⟨T, y1, rfl, nT, rfl, hy⟩ := y
    obtain ⟨x2, hx2, rfl⟩ := enumFr_get hd
    obtain ⟨le, V⟩ := (wk_list (K := K)).yld D0 S σ o H i y1 H x2 z E hx2 ⟨rfl, hy⟩
    refine ⟨Lh.new nT, Val.newT E nT ⟨.cons ?_ (.cons V.1 .nil), fun hc => .cons ?_ (.cons (V.2 hc) .nil)⟩⟩
    · rw [Nat.zero_add]
      exact .int _
    · rw [Nat.zero_add]
      exact .int _
  xe := fun D0 D0' o H H' z _ l1 l2 => ⟨z.1.mono l1, fun hc => (z.2 hc).mono l2⟩
  fr := fun D0 o H o' H' hc z _ l => ⟨((z.2 hc).mono l).mono vw_le_vt, fun _ => (z.2 hc).mono l⟩
def wEnT (wl : WEx) : WLs := fun S A B => wl S (fun d c S1 => match d with
  | .tuple ds => A (enumFr 0 ds) (c ∨ flats ds = true) S1
  | _ => False) B
def wEnL (wl : WEx) : WLs := fun S A B => wl S (fun d c S1 => match d with
  | .list ds => A (enumFr 0 ds) c S1
  | _ => False) B
theorem si_enT [Tbs] {e : Expr} {p tpos : Pos} {elts : List Expr} {kk : Nat} {we : WEx} (a : At X W k) (hm : X.mg "enumerate" = none) (he : SE X W e we) (hg : Gl X "enumerate" := by rfl) (hs : starEach [e] X.env = [(false, eval e X.env)] := by rfl) :
    SI X W (.Tuple elts kk tpos) (.Call (.Name "enumerate" p) [e] [] pos) (wEnT we) := by
  obtain ⟨te, pe, se⟩ := he.ex
  refine ⟨_, pi_enumT hg hm (pa_cons pe pa_nil hs) hs, ?_⟩
  intro D0 S σ H o A B R E hw k kx
  refine se D0 S σ H o _ B _ E hw (fun d c S1 v H1 h1 E1 x1 V1 => ?_) kx
  split at h1
  · have V2 := V1.flat E1
    obtain ⟨a, vs, rfl, e, r, _⟩ := V1.titems E1
    exact ⟨a, vs, rfl, SqT.at e, k _ _ S1 _ H1 _ h1 E1 x1 wk_enumT ⟨V2.1, fun z => V2.2 (z.elim .inl fun f => .inr (by rw [flat]; exact f))⟩⟩
  · exact h1.elim
theorem si_enL [Tbs] {e : Expr} {p tpos : Pos} {elts : List Expr} {kk : Nat} {we : WEx} (a : At X W k) (hm : X.mg "enumerate" = none) (he : SE X W e we) (hg : Gl X "enumerate" := by rfl) (hs : starEach [e] X.env = [(false, eval e X.env)] := by rfl) :
    SI X W (.Tuple elts kk tpos) (.Call (.Name "enumerate" p) [e] [] pos) (wEnL we) := by
  obtain ⟨te, pe, se⟩ := he.ex
  refine ⟨_, pi_enum hg hm (pa_cons pe pa_nil hs) hs, ?_⟩
  intro D0 S σ H o A B R E hw k kx
  refine se D0 S σ H o _ B _ E hw (fun d c S1 v H1 h1 E1 x1 V1 => ?_) kx
  split at h1
  · obtain ⟨a, vs, rfl, e, r, _⟩ := V1.items E1
    exact ⟨a, vs, rfl, SqL.at e, k _ _ S1 _ H1 _ h1 E1 x1 wk_enumL ⟨V1.1, V1.2⟩⟩
  · exact h1.elim

/-! ### not of a list, -n, a chain as a test -/
def wNotT (wa : WEx) : WEx := fun S A B => wa S (fun d _ S1 => match d with
  | .list xs => A (.bool xs.isEmpty) True S1
  | .tuple xs => A (.bool xs.isEmpty) True S1
  | _ => False) B
theorem se_notT [Tbs] {a : Expr} {wa : WEx} (ha : SE X W a wa) : SE X W (.UnaryOp .Not a pos) (wNotT wa) := by
  obtain ⟨ta, pa, sa⟩ := ha.ex
  refine ⟨_, pe_notT pa, ?_⟩
  intro D0 S σ H o A B Q E hw k kx
  refine sa D0 S σ H o _ B _ E hw (fun d c S1 v H1 h1 E1 x1 V1 => ?_) kx
  split at h1
  · obtain ⟨a, vs, rfl, e, r, _⟩ := V1.items E1
    refine ⟨_, .inl ⟨vs, SqL.at e, rfl⟩, ?_⟩
    rw [Bool.not_not, rp_isEmpty r]
    exact k _ _ S1 _ H1 h1 E1 x1 (Val.of (.bl _))
  · obtain ⟨a, vs, rfl, e, r, _⟩ := V1.titems E1
    refine ⟨_, .inr (.inl ⟨vs, SqT.at e, rfl⟩), ?_⟩
    rw [Bool.not_not, rp_isEmpty r]
    exact k _ _ S1 _ H1 h1 E1 x1 (Val.of (.bl _))
  · exact h1.elim
def wNeg (wa : WEx) : WEx := fun S A B => wa S (fun d _ S1 => match d with
  | .int i => A (.int (-i)) True S1
  | _ => False) B
theorem se_neg [Tbs] {a : Expr} {wa : WEx} (ha : SE X W a wa) : SE X W (.UnaryOp .USub a pos) (wNeg wa) := by
  obtain ⟨ta, pa, sa⟩ := ha.ex
  refine ⟨_, pe_un un_neg pa, ?_⟩
  intro D0 S σ H o A B Q E hw k kx
  refine sa D0 S σ H o _ B _ E hw (fun d c S1 v H1 h1 E1 x1 V1 => ?_) kx
  split at h1
  · cases V1.1
    exact ⟨_, rfl, k _ _ S1 _ H1 h1 E1 x1 (Val.of (.int _))⟩
  · exact h1.elim
theorem st_chain [Tbs] {op op' : CmpOp} {g g' : R2D} {a b c : Expr} {wa wb wc : WEx} (ho : Op2 X (compareOp op) g) (ho' : Op2 X (compareOp op') g') (ha : SE X W a wa) (hb : SE X W b wb) (hc : SE X W c wc)
    (hm : lastMarks [op, op'] [b, c] = false := by with_unfolding_all rfl) : ST X W (.Compare a [op, op'] [b, c] pos) (wB (wChain g g' wa wb wc)) := by
  obtain ⟨ta, pa, sa⟩ := ha.ex
  obtain ⟨tb, pb, sb⟩ := hb.ex
  obtain ⟨tc, pc, sc⟩ := hc.ex
  obtain ⟨r, hr, h⟩ := ho.ex
  obtain ⟨r', hr', h'⟩ := ho'.ex
  refine ⟨_, pt_chain hr hr' pa pb pc hm, ?_⟩
  intro D0 S σ H o A B Q E hw k kx
  refine sa D0 S σ H o _ B _ E hw (fun d c S1 v H1 h1 E1 x1 V1 => ?_) kx
  refine sb D0 S1 σ H1 o _ B _ E1 h1 (fun d2 c2 S2 v2 H2 h2 E2 x2 V2 => ?_) (kx.on x1)
  refine h D0 S2 σ o H2 v v2 d d2 c c2 _ _ E2 (V1.mono x2) V2 h2 fun z dz cz H3 hz le V => ?_
  have x3 := (x1.trans x2).trans (XE.of le)
  have E3 := E2.xe le
  have V2' := V2.mono (XE.of le)
  obtain ⟨b, rfl, hz⟩ := bl_rp V.1 hz
  refine ⟨b, rfl, ?_⟩
  cases b with
  | true =>
    rw [if_pos rfl] at hz ⊢
    refine sc D0 S2 σ H3 o _ B _ E3 hz (fun d4 c4 S4 v4 H4 h4 E4 x4 V4 => ?_) (kx.on x3)
    refine h' D0 S4 σ o H4 v2 v4 d2 d4 c2 c4 _ _ E4 (V2'.mono x4) V4 h4 fun z' dz' cz' H' hz' le' V' => ?_
    obtain ⟨b, rfl, hb⟩ := bl_rp V'.1 hz'
    exact ⟨b, rfl, k b S4 H' hb (E4.xe le') ((x3.trans x4).trans (XE.of le'))⟩
  | false =>
    rw [if_neg Bool.false_ne_true] at hz ⊢
    exact ⟨false, rfl, k false S2 H3 hz E3 x3⟩

/-! ### raise X(), X a class of the text without __init__ -/
structure RaiseC (K : PySem.W.Frag) (mg : Str → Option Value) (x : Str) : Prop where
  ex : ∃ C, mg x = some (.ref C) ∧ PySem.W.keepIn K (.ref C) = true ∧ PySem.W.excIn K C [.type "ValueError", .type "Exception", .type "BaseException", .type "object"] "ValueError.__new__" = true ∧
    PySem.W.subIn K (.ref C) (.type "BaseException") = some true ∧ PySem.W.typeIn K (.ref C) = some (.type "type")
theorem pmk_own0 {C : Addr} {bmB : List Value} {B newId initId : String} {x : Str} {p pos : Pos} (F : ExcBaseFacts B newId initId bmB) (q : PySem.W.excIn X.K C bmB newId = true) (gC : X.mg x = some (.ref C)) (kC : PySem.W.keepIn X.K (.ref C) = true) (r : Raises X (.ref C)) (hg : Gl X x)
    (hdb : (x == ("__debug__" : Str)) = false := by decide) : PMk X (.Call (.Name x p) [] [] pos) (fun _ H Q => Q (.ref C) none H) := by
  intro pins s σ H Q I h
  refine wpAny_Call_Name_kw (ld_glob I hg gC ?_ hdb)
  refine PySem.W.callWith_K0 I.kIn kC ?_
  show wpAny _ _ (call (.ref C) []) _ _ _
  obtain ⟨bm, N, nm, qn, bs, hdct, sn, sub, ab, col, dd, k0, k1, k2, k3, k5, mN, hC, hN, hni, T⟩ := exc_obj I.kIn q
  refine PySem.wpAny_call_exc_subT F T hC hN hni (fun h' e hm => ?_) (by show 0 ≤ sizeLine; exact Nat.zero_le _)
  exact mk_of I hm r h (I.hok.gone hm.new)
def wRaise (x : Str) : WS := fun S P => P.ex (x, []) S
theorem ss_raise [Tbs] {x : Str} {p cp : Pos} (a : At X W k) (R : RaiseC X.K X.mg x) (hg : Gl X x := by rfl) (hdb : (x == ("__debug__" : Str)) = false := by decide) : SS X W (.Raise (some (.Call (.Name x p) [] [] cp)) none pos) (wRaise x) := by
  obtain ⟨C, gC, kC, q, h1, h2⟩ := R.ex
  refine ⟨_, ps_raise a.calm a.tx (pmk_own0 PySem.F.excBase_ValueError q gC kC (raises_own h1 h2) hg hdb), ?_⟩
  intro D0 S σ H o P D E hw g
  exact g.ex _ _ _ _ _ _ _ hw E (Fr.refl _ _) ⟨⟨C, by rw [a.mq]; exact gC, rfl⟩, .inl ⟨rfl, rfl⟩⟩
end
end Pu

namespace Pu
open PySem L2

/-! ### the source of draws -/
def RngAt (H : Hp) (a c : Addr) : Prop := ∃ (st ix : Int) (ns : List Int), H a = some (.lst [.int st, .ref c, .int ix]) ∧ H c = some (.lst (ns.map V.int)) ∧ ns.length ≤ 63
/-- all but a and c stands -/
def But (a c : Addr) (H H' : Hp) : Prop := ∀ b u, b ≠ a → b ≠ c → H b = some u → H' b = some u
/-- .. but for the tables, too -/
structure ButT [Tbs] (a c : Addr) (H H' : Hp) : Prop where
  k : ∀ b u, b ≠ a → b ≠ c → H b = some u → isTbl u = false → H' b = some u
  tb : TbOk H → TbOk H'
theorem But.t [Tbs] {a c : Addr} {H H' : Hp} (h : But a c H H') (rg : RngAt H a c) : ButT a c H H' := ⟨fun b u n1 n2 e _ => h b u n1 n2 e, fun t => t.but fun b u e x => by
  obtain ⟨st, ix, ns, r1, r2, _⟩ := rg
  exact h b u (fun z => by rw [z, r1] at e; cases e; cases x) (fun z => by rw [z, r2] at e; cases e; cases x) e⟩
/-- _law_next(h, n): a number below n -/
def spNext : Sp := fun vs H Q _ => ∃ (a c : Addr) (n : Int), vs = [.ref a, .int n] ∧ a ≠ c ∧ RngAt H a c ∧ 1 ≤ n ∧ n ≤ 10 ^ 31 ∧ ∀ r H', 0 ≤ r → r < n → But a c H H' → RngAt H' a c → Q (.int r) H'
/-- _law_mix(script, seed) -/
def spMix [Tbs] (K : PySem.W.Frag) : Sp := fun vs H Q _ => ∃ (a : Addr) (ns : List Int) (seed : Int), vs = [.ref a, .int seed] ∧ SqL K H a (ns.map V.int) ∧ ns.length ≤ 63 ∧
  ∀ p c H', H p = none → H c = none → p ≠ c → Lh H H' → RngAt H' p c → Q (.ref p) H'
def orng (a c : Addr) (i : Nat) (o : Ow) : Ow := fun b => if b = a ∨ b = c then some (i, true) else o b

section
variable {X : Cx} {W : WM} {k : Nat} {pos : Pos}
theorem rng_of {H : Hp} {a c : Addr} {st ix : Int} {ns : List Int} (h1 : co H a = some (.lst [.int st, .ref c, .int ix])) (h2 : co H c = some (.lst (ns.map V.int))) (h3 : ns.length ≤ 63) : RngAt H a c := ⟨st, ix, ns, co_lst h1, co_lst h2, h3⟩
theorem RngAt.co {H : Hp} {a c : Addr} (h : RngAt H a c) : ∃ (st ix : Int) (ns : List Int), Pu.co H a = some (.lst [.int st, .ref c, .int ix]) ∧ Pu.co H c = some (.lst (ns.map V.int)) ∧ ns.length ≤ 63 := by
  obtain ⟨st, ix, ns, h1, h2, h3⟩ := h
  exact ⟨st, ix, ns, co_of h1, co_of h2, h3⟩
theorem nf_orng {H : Hp} {a c : Addr} {i : Nat} (rg : RngAt H a c) : ∀ b p u, orng a c i (fun _ => none) b = some p → H b = some u → isFrz u = false := fun b p u e h => by
  obtain ⟨st, ix, ns, r1, r2, r3⟩ := rg
  unfold orng at e
  split at e
  · rename_i hb
    rcases hb with hb | hb
    · subst hb; rw [r1] at h; cases h; rfl
    · subst hb; rw [r2] at h; cases h; rfl
  · cases e
/-- the frame's source of draws has turned -/
theorem Env.turn [Tbs] {D0 : Addr → Bool} {S : Slots} {σ : St} {H H' : Hp} {o : Ow} {a c : Addr} {i : Nat} (E : Env D0 S σ H o) (ha : o a = some (i, true)) (hc : o c = some (i, true)) (hi : S[i]? = some (.rng a c)) (hσ : σ[i]? = some (some (.ref a))) (hac : a ≠ c) (b : ButT a c H H') (r : RngAt H' a c) :
    Env D0 S σ H' o ∧ XE o H H' := by
  have x : XE o H H' := fun d u m e n => b.k d u (fun z => by rw [z, ha] at m; cases m) (fun z => by rw [z, hc] at m; cases m) e n
  obtain ⟨st, ix, ns, r1, r2, r3⟩ := r.co
  have cx : ∀ d u, d ≠ a → d ≠ c → co H d = some u → co H' d = some u := fun d u n1 n2 h => co_on (fun w e n => b.k d w n1 n2 e n) h
  refine ⟨⟨E.len, fun d p e => ?_, fun d e => ?_, fun j s e => ?_, fun d p u e h1 => ?_, b.tb E.tb⟩, x⟩
  · obtain ⟨h1, u, h2, h3⟩ := E.live d p e
    refine ⟨h1, ?_⟩
    by_cases n1 : d = a
    · subst n1; exact ⟨_, r1, rfl⟩
    · by_cases n2 : d = c
      · subst n2; exact ⟨_, r2, rfl⟩
      · exact ⟨u, cx _ _ n1 n2 h2, h3⟩
  · obtain ⟨u, h2, h3⟩ := E.dead d e
    have n1 : d ≠ a := fun z => by rw [z, (E.live a _ ha).1] at e; cases e
    have n2 : d ≠ c := fun z => by rw [z, (E.live c _ hc).1] at e; cases e
    exact ⟨u, cx _ _ n1 n2 h2, h3⟩
  · by_cases z : j = i
    · subst z
      rw [hi] at e
      cases e
      exact ⟨st, ix, ns, hσ, ha, hc, hac, r1, r2, r3⟩
    · have ne : ∀ {d : Addr} {b : Bool}, o d = some (j, b) → d ≠ a ∧ d ≠ c := fun {d b} e => ⟨fun q => (by rw [q, ha] at e; cases e; exact z rfl), fun q => (by rw [q, hc] at e; cases e; exact z rfl)⟩
      exact (E.sl j s e).move x.vw fun d b u h1 h2 => ⟨h1, cx _ _ (ne h1).1 (ne h1).2 h2⟩
  · obtain ⟨st, ix, ns, r1, r2, r3⟩ := r
    by_cases n1 : d = a
    · subst n1; rw [r1] at h1; cases h1; rfl
    · by_cases n2 : d = c
      · subst n2; rw [r2] at h1; cases h1; rfl
      · obtain ⟨u', h2, h3⟩ := E.at_ e
        rw [b.k d u' n1 n2 h2 (E.nt e h2)] at h1
        cases h1
        exact h3
/-- _law_next(h, e) -/
def wDraw (i : Nat) (we : WEx) : WEx := fun S A B => ∃ a c, S[i]? = some (.rng a c) ∧ we S (fun d _ S1 => match d with
  | .int n => S1[i]? = some (.rng a c) ∧ 1 ≤ n ∧ n ≤ 10 ^ 31 ∧ ∀ r, 0 ≤ r → r < n → A (.int r) True S1
  | _ => False) B
theorem se_draw [Tbs] {j : Nat} (i : Nat) {x : Str} {p q : Pos} {e : Expr} {we : WEx} (a : At X W k) (F : Def X.prog X.w X.K X.mg X.base j "_law_next" 2 spNext) (hj : j ≤ k) (he : SE X W e we) (hN : X.N[i]? = some x := by rfl) (hv : Vis X.env.scope x := by first | exact Or.inl rfl | exact Or.inr (Or.inl rfl) | exact Or.inr (Or.inr rfl))
    (hd : (x == ("__debug__" : Str)) = false := by decide) (hcd : (x == ("__classdict__" : Str)) = false := by decide) (hg : Gl X "_law_next" := by rfl)
    (hst : starEach [.Name x q, e] X.env = (false, eval (.Name x q) X.env) :: starEach [e] X.env := by rfl) (hst2 : starEach [e] X.env = (false, eval e X.env) :: starEach [] X.env := by rfl) (hpl : (backTo pos (starEach [e] X.env)).any (·.1) = false := by rfl) :
    SE X W (.Call (.Name "_law_next" p) [.Name x q, e] [] pos) (wDraw i we) := by
  obtain ⟨te, pe, se⟩ := he.ex
  obtain ⟨f, fd, ps, G, hm, hk, hb, hps⟩ := F.ex
  refine ⟨_, pe_callS G (a.room.mono hj) hg hm hk hb a.tk (pa_cons (pe_var hN hv hd hcd) (pa_cons pe pa_nil hst2) hst) (by decide) hst hpl, ?_⟩
  intro D0 S σ H o A B Q E hw kk kx
  obtain ⟨ra, rc, h0, hw⟩ := hw
  obtain ⟨st, ix, ns, h1, h2, h3, h4, h5, h6, h7⟩ := E.sl i _ h0
  refine ⟨.ref ra, h1, se D0 S σ H o _ B _ E hw (fun d c S1 v H1 h8 E1 x1 V1 => ?_) kx⟩
  split at h8
  · obtain ⟨g1, g2, g3, g4⟩ := h8
    cases V1.1
    obtain ⟨st', ix', ns', m1, m2, m3, m4, m5, m6, m7⟩ := E1.sl i _ g1
    refine ⟨ra, rc, _, rfl, m4, rng_of m5 m6 m7, g2, g3, fun r H' r0 rn bt rg => ?_⟩
    obtain ⟨E2, x2⟩ := E1.turn m2 m3 g1 h1 m4 (bt.t (rng_of m5 m6 m7)) rg
    exact kk _ _ S1 _ H' (g4 r r0 rn) E2 (x1.trans x2) (Val.of (.int _))
  · exact h8.elim

/-! ### defs whose first parameter is the source of draws -/
def spOfR [Tbs] (mg : Str → Option Value) (n : Nat) (sp : Spc) : Sp := fun vs H Q E => TbOk H ∧ ∃ (a c : Addr) (us : List V) (ds : List PyData) (D0 : Addr → Bool) (A : PyData → Prop) (B : XC → Prop), vs = .ref a :: us ∧ a ≠ c ∧ RngAt H a c ∧ ds.length = n ∧
  D0 a = false ∧ D0 c = false ∧ (∀ b, D0 b = true → ∃ u, co H b = some u ∧ isTup u = false) ∧ RpAll (vw D0 (orng a c 0 fun _ => none) (co H)) us ds ∧ sp ds A B ∧
  (∀ d v H', A d → ButT a c H H' → RngAt H' a c → Rp (vw D0 (orng a c 0 fun _ => none) (co H')) v d → Q v H') ∧ (∀ x cls dd H', B x → ButT a c H H' → RngAt H' a c → XOk mg H' x cls dd → E cls dd H')
theorem spOfR_len [Tbs] {mg : Str → Option Value} {n : Nat} {sp : Spc} {vs : List V} {H : Hp} {Q : VK} {E : XK} (h : spOfR mg n sp vs H Q E) : vs.length = n + 1 := by
  obtain ⟨_, a, c, us, ds, D0, A, B, rfl, _, _, h1, _, _, _, h2, _⟩ := h
  rw [List.length_cons, h2.length, h1]
def wCallR (i : Nat) (sp : Spc) (wa : WLs) : WEx := fun S A B => ∃ a b, S[i]? = some (.rng a b) ∧ wa S (fun ds c S1 => S1[i]? = some (.rng a b) ∧ sp ds (fun d => A d c S1) (fun x => B x S1)) B
theorem vw_borrow {D0 : Addr → Bool} {o : Ow} {C : Hp} {a c : Addr} {p q : Nat × Bool} (ha : o a = some p) (hc : o c = some q) :
    vw (fun b => (D0 b || (o b).isSome) && !decide (b = a) && !decide (b = c)) (orng a c 0 fun _ => none) C = vw D0 o C := by
  funext b
  unfold vw orng
  by_cases z1 : b = a
  · subst z1; simp [ha]
  · by_cases z2 : b = c
    · subst z2; simp [hc]
    · simp [z1, z2]
theorem vt_borrow {D0 : Addr → Bool} {o : Ow} {C : Hp} {a c : Addr} {i : Nat} (ha : o a = some (i, true)) (hc : o c = some (i, true)) :
    vw (fun b => (D0 b || mutO (o b)) && !decide (b = a) && !decide (b = c)) (orng a c 0 fun _ => none) C = vt D0 o C := by
  funext b
  unfold vw vt orng
  by_cases z1 : b = a
  · subst z1; simp [ha, mutO]
  · by_cases z2 : b = c
    · subst z2; simp [hc, mutO]
    · simp [z1, z2]
theorem se_callR [Tbs] {j n : Nat} (i : Nat) {sp : Spc} {x y : Str} {p q : Pos} {es : List Expr} {wa : WLs} (a : At X W k) (F : Def X.prog X.w X.K X.mg X.base j y (n + 1) (spOfR X.mg n sp)) (hj : j ≤ k) (ha : SA X W es wa) (hN : X.N[i]? = some x := by rfl) (hv : Vis X.env.scope x := by first | exact Or.inl rfl | exact Or.inr (Or.inl rfl) | exact Or.inr (Or.inr rfl))
    (hd : (x == ("__debug__" : Str)) = false := by decide) (hcd : (x == ("__classdict__" : Str)) = false := by decide) (hg : Gl X y := by rfl) (hdb : (y == ("__debug__" : Str)) = false := by decide)
    (hst : starEach (.Name x q :: es) X.env = (false, eval (.Name x q) X.env) :: starEach es X.env := by rfl) (hpl : (backTo pos (starEach es X.env)).any (·.1) = false := by rfl) (hn : es.length = n := by rfl) :
    SE X W (.Call (.Name y p) (.Name x q :: es) [] pos) (wCallR i sp wa) := by
  obtain ⟨ta, pa, sa⟩ := ha.ex
  obtain ⟨f, fd, ps, G, hm, hk, hb, hps⟩ := F.ex
  refine ⟨_, pe_callS G (a.room.mono hj) hg hm hk hb a.tk (pa_cons (pe_var hN hv hd hcd) pa hst) hdb hst hpl, ?_⟩
  intro D0 S σ H o A B Q E hw kk kx
  obtain ⟨ra, rc, h0, hw⟩ := hw
  obtain ⟨st, ix, ns, h1, h2, h3, h4, h5, h6, h7⟩ := E.sl i _ h0
  refine ⟨.ref ra, h1, sa D0 S σ H o _ B _ E hw (fun ds c S1 vs H1 hl h8 E1 x1 V1 => ?_) kx⟩
  obtain ⟨g1, h8⟩ := h8
  obtain ⟨st', ix', ns', m1, m2, m3, m4, m5, m6, m7⟩ := E1.sl i _ g1
  have ends : ∀ H', ButT ra rc H1 H' → RngAt H' ra rc → Env D0 S1 σ H' o ∧ XE o H1 H' := fun H' bt rg => E1.turn m2 m3 g1 h1 m4 bt rg
  have ex : ∀ x cls dd H', B x S1 → ButT ra rc H1 H' → RngAt H' ra rc → XOk X.mg H' x cls dd → W.w cls dd σ H' := fun x cls dd H' hx bt rg ok => by
    obtain ⟨E2, x2⟩ := ends H' bt rg
    exact kx x S1 cls dd H' hx E2 (x1.trans x2) (by rw [a.mq]; exact ok)
  by_cases hc : c
  · refine ⟨E1.tb, ra, rc, vs, ds, fun b => (D0 b || (o b).isSome) && !decide (b = ra) && !decide (b = rc), _, _, rfl, m4, rng_of m5 m6 m7, hl.trans hn, by simp, by simp, fun b hb => E1.deadV b (by simp at hb; simpa using hb.1.1), by rw [vw_borrow m2 m3]; exact V1.2 hc, h8, fun d v H' hd bt rg r => ?_, ex⟩
    obtain ⟨E2, x2⟩ := ends H' bt rg
    rw [vw_borrow m2 m3] at r
    exact kk d c S1 v H' hd E2 (x1.trans x2) ⟨r.mono vw_le_vt, fun _ => r⟩
  · refine ⟨E1.tb, ra, rc, vs, ds, fun b => (D0 b || mutO (o b)) && !decide (b = ra) && !decide (b = rc), _, _, rfl, m4, rng_of m5 m6 m7, hl.trans hn, by simp, by simp, fun b hb => E1.deadM b (by simp at hb; simpa using hb.1.1), by rw [vt_borrow m2 m3]; exact V1.1, h8, fun d v H' hd bt rg r => ?_, ex⟩
    obtain ⟨E2, x2⟩ := ends H' bt rg
    rw [vt_borrow m2 m3] at r
    exact kk d c S1 v H' hd E2 (x1.trans x2) ⟨r, fun z => absurd z hc⟩
theorem env_startR [Tbs] {D0 : Addr → Bool} {N : List Str} {us : List V} {ds : List PyData} {H : Hp} {a c : Addr} (tb : TbOk H) (hac : a ≠ c) (rg : RngAt H a c) (d1 : D0 a = false) (d2 : D0 c = false) (hd : ∀ b, D0 b = true → ∃ u, co H b = some u ∧ isTup u = false) (r : RpAll (vw D0 (orng a c 0 fun _ => none) (co H)) us ds) (hN : 1 ≤ N.length) :
    Env D0 (.rng a c :: startS (N.length - 1) ds) (L2.start N (.ref a :: us)) H (orng a c 0 fun _ => none) := by
  obtain ⟨st, ix, ns, r1, r2, r3⟩ := rg.co
  have es : L2.start N (.ref a :: us) = some (.ref a) :: (us.map some ++ List.replicate (N.length - 1 - us.length) none) := by
    unfold L2.start
    rw [List.map_cons, List.cons_append, List.length_cons]
    have e : N.length - (us.length + 1) = N.length - 1 - us.length := by omega
    rw [e]
  refine ⟨?_, fun b p e => ?_, hd, fun i s e => ?_, nf_orng rg, tb⟩
  · rw [es]
    unfold startS
    simp [r.length]
  · unfold orng at e
    split at e
    · rename_i hb
      rcases hb with hb | hb
      · subst hb; exact ⟨d1, _, r1, rfl⟩
      · subst hb; exact ⟨d2, _, r2, rfl⟩
    · cases e
  · rw [es]
    cases i with
    | zero =>
      cases e
      exact ⟨st, ix, ns, rfl, if_pos (.inl rfl), if_pos (.inr rfl), hac, r1, r2, r3⟩
    | succ i =>
      rw [List.getElem?_cons_succ] at e ⊢
      unfold startS at e
      by_cases hi : i < ds.length
      · rw [List.getElem?_append_left (by simpa using hi), List.getElem?_map, List.getElem?_eq_getElem hi] at e
        cases e
        obtain ⟨v, h1, h2⟩ := r.get (List.getElem?_eq_getElem hi)
        refine ⟨v, ?_, h2⟩
        rw [List.getElem?_append_left (by simpa [r.length] using hi), List.getElem?_map, h1]
        rfl
      · rw [List.getElem?_append_right (by simpa using hi), List.getElem?_replicate] at e
        split at e
        · cases e
          trivial
        · cases e
section
variable {P : Program} {w : World} {K : PySem.W.Frag} {mg : Str → Option Value} {base : Heap}
/-- THE RULE for a def whose first parameter is the source of draws -/
theorem def_okR [Tbs] {x : Str} {st : Stmt} {f : Addr} {fd : FuncData} {N ps : List Str} {k : Nat} {sp : Spc} (F : Fun K x x st f fd) (S : FnScope N ps (defScope st)) (hp : 1 ≤ ps.length) (hN : 1 ≤ N.length)
    (hb : ∀ (cdv : Value) (A : Around) (outer : List PySem.Env) (s : Shared) (H : Hp) (E : XK), At (cxOf (L2.CX P w) P w K mg base N x (defScope st) f cdv A outer s H E) ⟨mg, fun cls d _ H' => E cls d H'⟩ k →
      ∃ wb, SSs (cxOf (L2.CX P w) P w K mg base N x (defScope st) f cdv A outer s H E) ⟨mg, fun cls d _ H' => E cls d H'⟩ (defBody st) wb ∧
        ∀ ds A B a c, ds.length = ps.length - 1 → sp ds A B → wb (.rng a c :: startS (N.length - 1) ds) ⟨fun S => S[0]? = some (.rng a c) ∧ A .none, fun d _ S => S[0]? = some (.rng a c) ∧ A d, fun _ => False, fun _ => False, fun x S => S[0]? = some (.rng a c) ∧ B x⟩) :
    FnOk P w K mg base (L2.CX P w) (k + 1) f fd ps (spOfR mg (ps.length - 1) sp) := by
  refine F.okX S (fun vs H Q E h => by rw [spOfR_len h]; omega) (fun cdv A outer s H vs Q E hr h => ?_)
  obtain ⟨tb, a, c, us, ds, D0, A', B', rfl, hac, rg, hl, d1, d2, hd, r, hsp, hA, hB⟩ := h
  have at_ : At (cxOf (L2.CX P w) P w K mg base N x (defScope st) f cdv A outer s H E) ⟨mg, fun cls d _ H' => E cls d H'⟩ k := ⟨hr, rfl, takes_of rfl rfl rfl rfl, rfl, S.nd, passes_of rfl⟩
  obtain ⟨wb, hp, hw⟩ := hb cdv A outer s H E at_
  obtain ⟨t, pt, st'⟩ := hp.ex
  refine ⟨t, pt, ?_⟩
  have bt : ∀ {S' : Slots} {σ' : St} {H' : Hp} {o' : Ow}, Env D0 S' σ' H' o' → Fr (orng a c 0 fun _ => none) H o' H' → ButT a c H H' := fun {S' σ' H' o'} E' f => ⟨fun b u n1 n2 e n => (f b u (if_neg (fun z => z.elim n1 n2)) e n).1, fun _ => E'.tb⟩
  have ends : ∀ {S' : Slots} {σ' : St} {H' : Hp} {o' : Ow}, S'[0]? = some (.rng a c) → Env D0 S' σ' H' o' → RngAt H' a c ∧ ∀ {v : V} {d : PyData}, Rp (vt D0 o' (co H')) v d → Rp (vw D0 (orng a c 0 fun _ => none) (co H')) v d := fun {S' σ' H' o'} hs E' => by
    obtain ⟨st1, ix1, ns1, k1, k2, k3, k4, k5, k6, k7⟩ := E'.sl 0 _ hs
    refine ⟨rng_of k5 k6 k7, fun {v d} q => q.mono fun b u e => ?_⟩
    unfold vt at e
    unfold vw orng
    split at e
    · cases e
    · rename_i hn
      have n1 : b ≠ a := fun z => hn (by rw [z, k2]; simp [mutO])
      have n2 : b ≠ c := fun z => hn (by rw [z, k3]; simp [mutO])
      have n3 : D0 b = false := by
        cases q : D0 b with
        | false => rfl
        | true => exact absurd (by rw [q, Bool.true_or]) hn
      have n4 : (if b = a ∨ b = c then some (0, true) else (none : Option (Nat × Bool))) = none := if_neg (fun z => z.elim n1 n2)
      show (if (D0 b || (if b = a ∨ b = c then some (0, true) else (none : Option (Nat × Bool))).isSome) = true then none else co H' b) = some u
      rw [n3, n4]
      exact e
  exact st' D0 _ _ H _ _ _ (env_startR tb hac rg d1 d2 hd r hN) (hw ds A' B' a c hl hsp)
    ⟨fun S' σ' H' o' h E' f => hA _ _ _ h.2 (bt E' f) (ends h.1 E').1 .non, fun _ _ _ _ h => h.elim, fun _ _ _ _ h => h.elim,
      fun d c' S' v σ' H' o' h E' f V => hA _ _ _ h.2 (bt E' f) (ends h.1 E').1 ((ends h.1 E').2 V.1), fun x S' σ' cls dd H' o' h E' f ok => hB x cls dd H' h.2 (bt E' f) (ends h.1 E').1 ok⟩
/-- law's: a list of at most 63 ints is handed in, True comes out -/
def spLaw [Tbs] (K : PySem.W.Frag) : Sp := fun vs H Q _ => TbOk H ∧ ∃ (a : Addr) (ns : List Int), vs = [.ref a] ∧ SqL K H a (ns.map V.int) ∧ ns.length ≤ 63 ∧ ∀ H', Q (.bl true) H'
/-- THE RULE for law: h = _law_mix(script, seed), then the rest -/
theorem law_ok [Tbs] {st : Stmt} {f : Addr} {fd : FuncData} {N : List Str} {k i : Nat} {seed : Int} (F : Fun K "law" "law" st f fd) (S : FnScope N ["_law_script"] (defScope st)) (hi : i < N.length)
    (hb : ∀ (cdv : Value) (A : Around) (outer : List PySem.Env) (s : Shared) (H : Hp) (E : XK), At (cxOf (L2.CX P w) P w K mg base N "law" (defScope st) f cdv A outer s H E) ⟨mg, fun cls d _ H' => E cls d H'⟩ k →
      ∃ s1 rest WX wb, defBody st = s1 :: rest ∧ PS (cxOf (L2.CX P w) P w K mg base N "law" (defScope st) f cdv A outer s H E) s1 (tAsg (tCallS (spMix K) WX (tCons (tVar 0) (tCons (tC (.int seed)) tNil))) (gName i)) ∧
        SSs (cxOf (L2.CX P w) P w K mg base N "law" (defScope st) f cdv A outer s H E) ⟨mg, fun cls d _ H' => E cls d H'⟩ rest wb ∧
        ∀ a c, wb ((List.replicate N.length Slot.un).set i (.rng a c)) ⟨fun _ => False, fun d _ _ => d = .bool true, fun _ => False, fun _ => False, fun _ _ => False⟩) :
    FnOk P w K mg base (L2.CX P w) (k + 1) f fd ["_law_script"] (spLaw K) := by
  refine F.okX S (fun vs H Q E h => ?_) (fun cdv A outer s H vs Q E hr h => ?_)
  · obtain ⟨_, a, ns, rfl, _⟩ := h
    rfl
  · obtain ⟨tb, a, ns, rfl, hS, hlen, q⟩ := h
    have at_ : At (cxOf (L2.CX P w) P w K mg base N "law" (defScope st) f cdv A outer s H E) ⟨mg, fun cls d _ H' => E cls d H'⟩ k := ⟨hr, rfl, takes_of rfl rfl rfl rfl, rfl, S.nd, passes_of rfl⟩
    obtain ⟨s1, rest, WX, wb, eb, p1, p2, hw⟩ := hb cdv A outer s H E at_
    obtain ⟨t, pt, st'⟩ := p2.ex
    refine ⟨_, by rw [eb]; exact pss_cons p1 pt, ?_⟩
    have hN : 0 < N.length := by omega
    have h0 : (L2.start N [.ref a])[0]? = some (some (.ref a)) := rfl
    refine ⟨.ref a, h0, a, ns, seed, rfl, hS, hlen, fun p c H' np nc hpc le rg => ?_⟩
    obtain ⟨st1, ix1, ns1, r1, r2, r3⟩ := rg.co
    have E0 : Env (fun _ => false) ((List.replicate N.length Slot.un).set i (.rng p c)) ((L2.start N [.ref a]).set i (some (.ref p))) H' (orng p c i fun _ => none) := by
      refine ⟨?_, fun b q e => ?_, fun b e => (by cases e), fun j s e => ?_, nf_orng rg, le.tb tb⟩
      · unfold L2.start
        simp
        omega
      · unfold orng at e
        split at e
        · rename_i hb
          rcases hb with hb | hb
          · subst hb; exact ⟨rfl, _, r1, rfl⟩
          · subst hb; exact ⟨rfl, _, r2, rfl⟩
        · cases e
      · by_cases z : i = j
        · subst z
          rw [List.getElem?_set_self (by simpa using hi)] at e
          cases e
          refine ⟨st1, ix1, ns1, ?_, if_pos (.inl rfl), if_pos (.inr rfl), hpc, r1, r2, r3⟩
          rw [List.getElem?_set_self]
          unfold L2.start
          simp
          omega
        · rw [List.getElem?_set_ne z, List.getElem?_replicate] at e
          split at e
          · cases e
            trivial
          · cases e
    exact st' _ _ _ H' _ _ _ E0 (hw p c) ⟨fun _ _ _ _ h => h.elim, fun _ _ _ _ h => h.elim, fun _ _ _ _ h => h.elim,
      fun d c' S' v σ' H2 o' h E' f V => by
        have h' : d = .bool true := h
        subst h'
        cases V.1
        exact q H2, fun _ _ _ _ _ _ _ h => h.elim⟩
end
end
end Pu

namespace Pu
open PySem L2

/-! ### statements by their weakest reading -/
def tSW [Tbs] (W : WM) (w : WS) : TS := fun D σ H => ∃ (D0 : Addr → Bool) (S : Slots) (o : Ow) (P : En), Env D0 S σ H o ∧ w S P ∧ Goes W D0 o H P D
theorem tSW_snd [Tbs] {W : WM} {w : WS} : SndS W (tSW W w) w := fun D0 S σ H o P D E hw g => ⟨D0, S, o, P, E, hw, g⟩
theorem SSs.pss [Tbs] {X : Cx} {W : WM} {b : List Stmt} {w : WS} (h : SSs X W b w) : PSs X b (tSW W w) := by
  obtain ⟨t, p, s⟩ := h.ex
  exact ⟨fun pins sh σ H D I ⟨D0, S, o, P, E, hw, g⟩ => p.run pins sh σ H D I (s D0 S σ H o P D E hw g)⟩

section
variable {X : Cx} {W : WM} {k : Nat} {pos : Pos}

/-! ### try -/
/-- what the clause catches, by the exceptions' names -/
structure Catch (K : PySem.W.Frag) (mg : Str → Option Value) (C : Addr) (M : Str → Option Bool) : Prop where
  ok : ∀ x b, M x = some b → ∀ A, mg x = some (.ref A) → PySem.W.exmOne K (.ref A) (.ref C) = some b
def wTry (M : Str → Option Bool) (wb ws : WS) : WS := fun S P => wb S { P with ex := fun x S1 => match M x.1 with
  | some true => ws S1 { P with ex := noX }
  | some false => P.ex x S1
  | none => False }
theorem ss_try [Tbs] {x : Str} {C : Addr} {M : Str → Option Bool} {body suite : List Stmt} {b₀ : Stmt} {np pos' : Pos} {wb ws : WS} (a : At X W k) (hm : X.mg x = some (.ref C)) (hM : Catch X.K X.mg C M)
    (hb : ∀ (w' : WX) (pn : List (Addr × Obj)) (xe : Value → Shared → Prop), At (X.tr pn xe) ⟨X.mg, w'⟩ k → SSs (X.tr pn xe) ⟨X.mg, w'⟩ body wb)
    (hsu : ∀ (e : Addr) (oe : Obj) (pn : List (Addr × Obj)), SSs (X.suite e ((e, oe) :: pn)) (WN X.mg) (b₀ :: suite) ws)
    (hs : X.stack = X.env :: X.outer := by rfl) (hf : X.env.frame = some X.env.locals := by rfl) (hg : Gl X x := by rfl) (hdb : (x == ("__debug__" : Str)) = false := by decide) :
    SS X W (.Try body [.ExceptHandler (some (.Name x np)) none (b₀ :: suite) pos'] [] [] pos) (wTry M wb ws) := by
  refine ⟨_, ps_try_only hs hf ⟨hg, hdb, .inl hm⟩ a.tx (fun w' pn xe tk po => (hb w' pn xe ⟨a.room, a.calm, tk, rfl, a.nd, po⟩).pss) (fun e oe cls d pn _ _ => (hsu e oe pn).pss), ?_⟩
  intro D0 S σ H o P D E hw g
  refine tSW_snd D0 S σ H o _ D E hw ⟨g.nx, g.bk, g.ct, g.rt, ?_⟩
  intro y S' σ' cls dd H' o' h E' f ok
  obtain ⟨⟨A, hA, rfl⟩, hx⟩ := ok
  cases hM' : M y.1 with
  | none =>
    have h' : (match M y.1 with | some true => ws S' { P with ex := noX } | some false => P.ex y S' | none => False) := h
    rw [hM'] at h'
    exact h'.elim
  | some b =>
    have h' : (match M y.1 with | some true => ws S' { P with ex := noX } | some false => P.ex y S' | none => False) := h
    rw [hM'] at h'
    refine ⟨b, hM.ok _ _ hM' A hA, fun e a' ha' => ?_, fun e => ?_⟩
    · subst e
      have g' := g.on f
      exact tSW_snd D0 S' σ' H' o' _ D E' h' ⟨g'.nx, g'.bk, g'.ct, g'.rt, fun _ _ _ _ _ _ _ z => z.elim⟩
    · subst e
      exact g.ex y S' σ' _ dd H' o' h' E' f ⟨⟨A, by rw [a.mq]; exact hA, rfl⟩, hx⟩
/-- scalars -/
def sV : PyData → Option V
  | .none => some .non
  | .bool b => some (.bl b)
  | .int i => some (.int i)
  | .str s => some (.str s)
  | _ => none
def dV : V → Option PyData
  | .non => some .none
  | .bl b => some (.bool b)
  | .int i => some (.int i)
  | .str s => some (.str s)
  | _ => none
theorem rp_sV {G : Hp} {v : V} {d : PyData} {u : V} (r : Rp G v d) (h : sV d = some u) : v = u := by
  cases r <;> simp [sV] at h <;> exact h
theorem rp_dV {G : Hp} {v : V} {d : PyData} (h : dV v = some d) : Rp G v d := by
  cases v <;> simp [dV] at h <;> subst h <;> constructor
/-- try: .. except x as n: return n.f -/
def wTryF (x : Str) (M : Str → Option Bool) (i : Nat) (f : Str) (wb : WS) : WS := fun S P => wb S { P with ex := fun y S1 => match M y.1 with
  | some true => y.1 = x ∧ i < S1.length ∧ ∃ v d, y.2.lookup f = some v ∧ dV v = some d ∧ P.rt d True (S1.set i .un)
  | some false => P.ex y S1
  | none => False }
theorem ss_tryF [Tbs] {x n f : Str} {C : Addr} {M : Str → Option Bool} {body : List Stmt} {np p1 p2 p3 pos' : Pos} {wb : WS} (i : Nat) (a : At X W k) (hm : X.mg x = some (.ref C)) (hM : Catch X.K X.mg C M) (T : XfC X.K C) (hno : PySem.W.findIn X.K (.ref C) f = some none)
    (hb : ∀ (w' : WX) (pn : List (Addr × Obj)) (xe : Value → Shared → Prop), At (X.tr pn xe) ⟨X.mg, w'⟩ k → SSs (X.tr pn xe) ⟨X.mg, w'⟩ body wb)
    (hi : X.N[i]? = some n := by rfl) (hln : X.env.kindOf n = some .local := by rfl) (hv : Vis X.env.scope n := by first | exact Or.inl rfl | exact Or.inr (Or.inl rfl) | exact Or.inr (Or.inr rfl)) (hd : (n == ("__debug__" : Str)) = false := by decide) (hcd : (n == ("__classdict__" : Str)) = false := by decide)
    (hab : attributeBase (.Name n p1) f X.env (eval (.Name n p1) X.env) = eval (.Name n p1) X.env := by rfl)
    (hs : X.stack = X.env :: X.outer := by rfl) (hf : X.env.frame = some X.env.locals := by rfl) (hg : Gl X x := by rfl) (hdb : (x == ("__debug__" : Str)) = false := by decide) :
    SS X W (.Try body [.ExceptHandler (some (.Name x np)) (some n) [.Return (some (.Attribute (.Name n p1) f p2)) p3] pos'] [] [] pos) (wTryF x M i f wb) := by
  refine ⟨_, ps_try_as (i := i) (ts := fun e cls d => tRet (tXf e cls d C f (tVar i))) hs hf a.nd hi hln ⟨hg, hdb, .inl hm⟩ a.tx (fun w' pn xe tk po => (hb w' pn xe ⟨a.room, a.calm, tk, rfl, a.nd, po⟩).pss)
    (fun e oe cls d pn hz hvs => pss_one (ps_ret (pe_xf T hno hz hvs (pe_var (X := X.suite e ((e, oe) :: pn)) hi hv hd hcd) hab))), ?_⟩
  intro D0 S σ H o P D E hw g
  refine tSW_snd D0 S σ H o _ D E hw ⟨g.nx, g.bk, g.ct, g.rt, ?_⟩
  intro y S' σ' cls dd H' o' h E' f' ok
  obtain ⟨⟨A, hA, rfl⟩, hx⟩ := ok
  have h' : (match M y.1 with | some true => y.1 = x ∧ i < S'.length ∧ ∃ v d, y.2.lookup f = some v ∧ dV v = some d ∧ P.rt d True (S'.set i .un) | some false => P.ex y S' | none => False) := h
  cases hM' : M y.1 with
  | none =>
    rw [hM'] at h'
    exact h'.elim
  | some b =>
    rw [hM'] at h'
    refine ⟨b, hM.ok _ _ hM' A hA, fun e a' ha' => ?_, fun e => ?_⟩
    · subst e
      obtain ⟨ey, hlt, v, d, hl, hd', h'⟩ := h'
      have hA' : X.mg y.1 = some (.ref A) := hA
      rw [ey, hm] at hA'
      cases hA'
      have hi' : i < σ'.length := by rw [E'.len]; exact hlt
      refine ⟨.ref a', by rw [List.getElem?_set_self hi'], rfl, rfl, ?_⟩
      rcases hx with ⟨hx, _⟩ | ⟨dd', ed, hx⟩
      · rw [hx] at hl; cases hl
      · refine ⟨dd', y.2, v, ed, hx, hl, ?_⟩
        exact g.rt d True _ v _ H' o' h' (E'.un i) f' (Val.of (rp_dV hd'))
    · subst e
      exact g.ex y S' σ' _ dd H' o' h' E' f' ⟨⟨A, by rw [a.mq]; exact hA, rfl⟩, hx⟩
end
end Pu

namespace Pu
open PySem L2

/-! ### raise X(e, ..), X's own __init__ storing each argument in a field -/
def spInit (C : Addr) (fs : List Str) : Sp := fun vs H Q _ => ∃ (a : Addr) (us : List V), vs = .ref a :: us ∧ us.length = fs.length ∧ H a = some (exo a C none) ∧
  ∀ dx H', H dx = none → dx ≠ a → H' a = some (exo a C (some dx)) → H' dx = some (exd dx (fs.zip us).reverse) → (∀ b, b ≠ a → b ≠ dx → H' b = H b) → Q .non H'
structure RaiseF (P : Program) (w : World) (K : PySem.W.Frag) (mg : Str → Option Value) (base : Heap) (j : Nat) (x : Str) (fs : List Str) : Prop where
  ex : ∃ (C fI : Addr) (fd : FuncData), mg x = some (.ref C) ∧ OexC K C ∧ PySem.W.findIn K (.ref C) "__init__" = some (some (.ref fI)) ∧ PySem.W.typeIn K (.ref fI) = some (.type "function") ∧
    FnOk P w K mg base (L2.CX P w) j fI fd ("self" :: fs) (spInit C fs) ∧ Binds K fd ("self" :: fs) []
def sVs : List PyData → Option (List V)
  | [] => some []
  | d :: r => match sV d, sVs r with
    | some v, some vs => some (v :: vs)
    | _, _ => none
theorem rp_sVs {G : Hp} : ∀ {vs : List V} {ds : List PyData} {us : List V}, RpAll G vs ds → sVs ds = some us → vs = us
  | _, _, _, .nil, h => by cases h; rfl
  | _, _, us, .cons (d := d) (ds := ds) a b, h => by
    unfold sVs at h
    split at h
    · rename_i v vs h1 h2
      cases h
      rw [rp_sV a h1, rp_sVs b h2]
    · cases h
def wRaiseF (x : Str) (fs : List Str) (wa : WLs) : WS := fun S P => wa S (fun ds _ S1 => ∃ us, sVs ds = some us ∧ P.ex (x, (fs.zip us).reverse) S1) P.ex
section
variable {X : Cx} {W : WM} {k : Nat} {pos : Pos}
theorem passes_no {X : Cx} : Passes (L2.CX X.prog X.w) X (fun _ _ _ => False) := fun pins σ H s e s' I c => passAt (W := fun _ _ _ _ => False) takes0 σ pins H s e s' I c
theorem ss_raiseF [Tbs] {j : Nat} {x : Str} {fs : List Str} {e : Expr} {es : List Expr} {p cp : Pos} {wa : WLs} (a : At X W k) (R : RaiseF X.prog X.w X.K X.mg X.base j x fs) (hj : j + 1 ≤ k) (ha : SA X W (e :: es) wa) (hn : (e :: es).length = fs.length := by rfl) (hl : fs.length ≤ 20 := by decide) (hg : Gl X x := by rfl) (hdb : (x == ("__debug__" : Str)) = false := by decide)
    (he : starEach (e :: es) X.env = (false, eval e X.env) :: starEach es X.env := by rfl) (hpl : (backTo cp (starEach es X.env)).any (·.1) = false := by rfl) : SS X W (.Raise (some (.Call (.Name x p) (e :: es) [] cp)) none pos) (wRaiseF x fs wa) := by
  obtain ⟨ta, pa, sa⟩ := ha.ex
  obtain ⟨C, fI, fd, hm, T, iC, tI, F, hb⟩ := R.ex
  refine ⟨_, ps_raise a.calm a.tx (pmk_oex T iC tI F (a.room.mono hj) hb .nil passes_no hg hm pa hdb he hpl), ?_⟩
  intro D0 S σ H o P D E hw g
  refine sa D0 S σ H o _ P.ex _ E hw (fun ds c S1 vs H1 hlen h1 E1 x1 V1 => ?_) g.xw
  obtain ⟨us, hu, h1⟩ := h1
  have ev := rp_sVs V1.1 hu
  subst ev
  have hlv : vs.length = fs.length := by rw [V1.1.length, hlen]; exact hn
  refine ⟨by omega, fun b hb => ⟨b, vs ++ [], rfl, by rw [List.append_nil]; exact hlv, upd_same, fun dx H' n1 n2 h2 h3 h4 => ⟨rfl, dx, _, h2, h3, ?_, ?_⟩⟩⟩
  · rw [upd_ne n2] at n1
    exact n1
  · rw [upd_ne n2] at n1
    have le : Lh H1 (upd (del H' b) dx (.xd (fs.zip (vs ++ [])).reverse)) := Lh.of fun q u e => by
      have q1 : q ≠ b := fun z => by rw [z, hb] at e; cases e
      have q2 : q ≠ dx := fun z => by rw [z, n1] at e; cases e
      rw [upd_ne q2, del_ne q1, h4 q q1 q2, upd_ne q1]
      exact e
    rw [List.append_nil] at *
    exact g.ex _ S1 σ _ _ _ o h1 (E1.xe le) (x1.trans (XE.of le)).fr ⟨⟨C, by rw [a.mq]; exact hm, rfl⟩, .inr ⟨dx, rfl, upd_same⟩⟩

/-! ### sum -/
def rSumT (K : PySem.W.Frag) : List V → Hp → VK → Prop := fun vs H Q => ∃ (a : Addr) (ns : List Int), vs = [V.ref a] ∧ SqT K H a (ns.map V.int) ∧ Q (.int ns.sum) H
theorem cr_sumT (hc : X.calm = true) : CallR X (.builtin "sum") (rSumT X.K) := by
  intro pins s σ H vs us Q I r h
  obtain ⟨a, ns, rfl, hs, q⟩ := h
  obtain ⟨its, rv, hl, _⟩ := I.tuple hs
  rw [Vals.ref1 r]
  have hi := rv.ints
  obtain ⟨xs, e⟩ := hi.allInts.items
  have hn : numsOf (intItems xs).toList = ns := by rw [← e]; exact hi.numsOf
  rw [nums_intItems] at hn
  rw [e] at hl
  refine PySem.W.ktm_sumG (I.ok.hd hc) hl fun h' tk t' hk => ?_
  rw [preSum_eq, List.take_of_length_le (by simp), hn]
  exact ⟨.int _, H, I.kept hk, ⟨_, rfl⟩, q⟩
def gSum : RD := fun ds _ K => match ds with
  | [.list xs] => ∃ ns, ints? xs = some ns ∧ K (.int ns.sum) True
  | [.tuple xs] => ∃ ns, ints? xs = some ns ∧ K (.int ns.sum) True
  | _ => False
theorem f_sum [Tbs] (a : At X W k) : Fn X (.builtin "sum") gSum := by
  refine ⟨_, CallR.or (cr_sum a.calm) (cr_sumT a.calm), ?_⟩
  intro D0 S σ o H vs ds c K Q E V hg k
  unfold gSum at hg
  split at hg
  · obtain ⟨v, rfl, U⟩ := vals1 V
    obtain ⟨a, ws, rfl, e, r, rc⟩ := U.items E
    obtain ⟨ns, hi, hg⟩ := hg
    rw [ints?_of hi] at r
    rw [r.ints] at e
    exact .inl ⟨a, ns, rfl, SqL.at e, k _ _ _ H hg (Lh.refl H) (Val.of (.int _))⟩
  · obtain ⟨v, rfl, U⟩ := vals1 V
    obtain ⟨a, ws, rfl, e, r, rc⟩ := U.titems E
    obtain ⟨ns, hi, hg⟩ := hg
    rw [ints?_of hi] at r
    rw [r.ints] at e
    exact .inr ⟨a, ns, rfl, SqT.at e, k _ _ _ H hg (Lh.refl H) (Val.of (.int _))⟩
  · exact hg.elim

/-! ### a, b = x, y, some of them new lists that become the frame's own -/
inductive Mi where
  | v (d : PyData)
  | l (ds : List PyData)
  | d (es : List (PyData × PyData))
def slotM : Mi → Slot
  | .v d => .im d
  | .l ds => .ol ds
  | .d es => .od es
def MiOk (D0 : Addr → Bool) (o : Ow) (H : Hp) (j : Nat) (x : V) : Mi → Prop
  | .v d => Rp (vw D0 o (co H)) x d
  | .l ds => ∃ p us, x = .ref p ∧ o p = some (j, false) ∧ H p = some (.lst us) ∧ RpAll (vw D0 o (co H)) us ds
  | .d es => ∃ p u, x = .ref p ∧ o p = some (j, false) ∧ H p = some u ∧ core u = u ∧ DOk (vw D0 o (co H)) u es
inductive MisOk (D0 : Addr → Bool) (o : Ow) (H : Hp) : List Nat → List V → List Mi → Prop
  | nil : MisOk D0 o H [] [] []
  | cons {j : Nat} {js : List Nat} {x : V} {xs : List V} {m : Mi} {ms : List Mi} : MiOk D0 o H j x m → MisOk D0 o H js xs ms → MisOk D0 o H (j :: js) (x :: xs) (m :: ms)
theorem DOk.nt {G : Hp} {u : HO} {es : List (PyData × PyData)} (d : DOk G u es) : isTbl u = false := by
  rcases d with ⟨_, _, _, rfl, _⟩ | ⟨_, rfl, _⟩ <;> rfl
def FrM (o : Ow) (H : Hp) (o' : Ow) (H' : Hp) : Prop := ∀ a u, mutO (o a) = false → H a = some u → isTbl u = false → H' a = some u ∧ o' a = o a
theorem FrM.fr {o o' : Ow} {H H' : Hp} (h : FrM o H o' H') : Fr o H o' H' := fun a u n e t => by
  obtain ⟨h1, h2⟩ := h a u (by rw [n]; rfl) e t
  exact ⟨h1, h2.trans n⟩
theorem FrM.trans {o o1 o2 : Ow} {H H1 H2 : Hp} (a : FrM o H o1 H1) (b : FrM o1 H1 o2 H2) : FrM o H o2 H2 := fun x u m e t => by
  obtain ⟨h1, h2⟩ := a x u m e t
  obtain ⟨h3, h4⟩ := b x u (by rw [h2]; exact m) h1 t
  exact ⟨h3, h4.trans h2⟩
theorem XE.frM {o : Ow} {H H' : Hp} (h : XE o H H') : FrM o H o H' := fun a u m e t => ⟨h a u m e t, rfl⟩
theorem FrM.refl (o : Ow) (H : Hp) : FrM o H o H := fun _ _ _ e _ => ⟨e, rfl⟩
theorem frM_own {H : Hp} {o : Ow} {p : Addr} {i : Nat} {u : HO} (h : H p = none) : FrM o H (ow1 o p i) (upd H p u) := fun a x n e _ => by
  have ne := ne_of_none e h
  exact ⟨by rw [upd_ne ne]; exact e, if_neg ne⟩
theorem MiOk.on {D0 : Addr → Bool} {o o' : Ow} {H H' : Hp} {j : Nat} {x : V} {m : Mi} (f : FrM o H o' H') (h : MiOk D0 o H j x m) : MiOk D0 o' H' j x m := by
  cases m with
  | v d => exact h.mono f.fr.vw
  | l ds =>
    obtain ⟨p, us, h1, h2, h3, h4⟩ := h
    obtain ⟨h5, h6⟩ := f p _ (by rw [h2]; rfl) h3 rfl
    exact ⟨p, us, h1, h6.trans h2, h5, h4.mono f.fr.vw⟩
  | d es =>
    obtain ⟨p, u, h1, h2, h3, h0, h4⟩ := h
    obtain ⟨h5, h6⟩ := f p _ (by rw [h2]; rfl) h3 h4.nt
    exact ⟨p, u, h1, h6.trans h2, h5, h0, h4.mono f.fr.vw⟩
/-- the way out by an exception, of a statement -/
def XwF [Tbs] (W : WM) (D0 : Addr → Bool) (o : Ow) (H : Hp) (B : EK) : Prop := ∀ x S' σ' cls dd H' o', B x S' → Env D0 S' σ' H' o' → Fr o H o' H' → XOk W.mg H' x cls dd → W.w cls dd σ' H'
theorem XwF.xw [Tbs] {D0 : Addr → Bool} {σ : St} {o : Ow} {H : Hp} {B : EK} (h : XwF W D0 o H B) : Xw W D0 σ o H B := fun x S' cls dd H' hb E q ok => h x S' σ cls dd H' o hb E q.fr ok
theorem XwF.on [Tbs] {D0 : Addr → Bool} {o o1 : Ow} {H H1 : Hp} {B : EK} (h : XwF W D0 o H B) (f : Fr o H o1 H1) : XwF W D0 o1 H1 B := fun x S' σ' cls dd H' o' hb E q ok => h x S' σ' cls dd H' o' hb E (f.trans q) ok
abbrev WMi := Slots → (List Mi → Slots → Prop) → EK → Prop
def SndM [Tbs] (W : WM) (t : TA) (js : List Nat) (w : WMi) : Prop := ∀ (D0 : Addr → Bool) (S : Slots) (σ : St) (H : Hp) (o : Ow) (A : List Mi → Slots → Prop) (B : EK) (Q : List V → Hp → Prop), Env D0 S σ H o → w S A B →
  (∀ ms S' vs H' o', A ms S' → Env D0 S' σ H' o' → FrM o H o' H' → MisOk D0 o' H' js vs ms → Q vs H') → XwF W D0 o H B → t σ H Q
structure SM [Tbs] (X : Cx) (W : WM) (es : List Expr) (js : List Nat) (w : WMi) : Prop where
  ex : ∃ t, PA X es t ∧ SndM W t js w
def wMNil : WMi := fun S A _ => A [] S
def wMV (we : WEx) (wr : WMi) : WMi := fun S A B => we S (fun d c S1 => (c ∨ flat d = true) ∧ wr S1 (fun ms S2 => A (.v d :: ms) S2) B) B
def wMO (wo : WLs) (wr : WMi) : WMi := fun S A B => wo S (fun ds c S1 => (c ∨ flats ds = true) ∧ wr S1 (fun ms S2 => A (.l ds :: ms) S2) B) B
theorem sm_nil [Tbs] : SM X W [] [] wMNil := ⟨_, pa_nil, fun D0 S σ H o A B Q E hw k kx => k _ _ _ _ o hw E (FrM.refl _ _) .nil⟩
theorem sm_v [Tbs] (j : Nat) {e : Expr} {es : List Expr} {js : List Nat} {we : WEx} {wr : WMi} (he : SE X W e we) (hr : SM X W es js wr) (hst : starEach (e :: es) X.env = (false, eval e X.env) :: starEach es X.env := by rfl) : SM X W (e :: es) (j :: js) (wMV we wr) := by
  obtain ⟨te, pe, se⟩ := he.ex
  obtain ⟨tr, pr, sr⟩ := hr.ex
  refine ⟨_, pa_cons pe pr hst, ?_⟩
  intro D0 S σ H o A B Q E hw k kx
  refine se D0 S σ H o _ B _ E hw (fun d c S1 v H1 h1 E1 x1 V1 => ?_) kx.xw
  refine sr D0 S1 σ H1 o _ B _ E1 h1.2 (fun ms S2 vs H2 o2 h2 E2 f2 M2 => ?_) (kx.on x1.fr)
  exact k _ S2 _ H2 o2 h2 E2 (x1.frM.trans f2) (.cons (MiOk.on (m := .v d) f2 ((V1.flat E1).2 h1.1)) M2)
theorem sm_o [Tbs] (j : Nat) {e : Expr} {es : List Expr} {js : List Nat} {wo : WLs} {wr : WMi} (he : SO X W e wo) (hr : SM X W es js wr) (hst : starEach (e :: es) X.env = (false, eval e X.env) :: starEach es X.env := by rfl) : SM X W (e :: es) (j :: js) (wMO wo wr) := by
  obtain ⟨te, pe, se⟩ := he.ex
  obtain ⟨tr, pr, sr⟩ := hr.ex
  refine ⟨_, pa_cons pe pr hst, ?_⟩
  intro D0 S σ H o A B Q E hw k kx
  refine se D0 S σ H o _ B _ E hw (fun ds c S1 vs p H1 h1 E1 x1 hp V1 => ?_) kx.xw
  have r := V1.clean E1 h1.1
  have f1 : FrM o H (ow1 o p j) (upd H1 p (.lst vs)) := x1.frM.trans (frM_own hp)
  have E2 : Env D0 S1 σ (upd H1 p (.lst vs)) (ow1 o p j) := by
    have nw := E1.new hp
    have le : Le (co H1) (co (upd H1 p (.lst vs))) := (Lh.new hp).co
    have oe : ∀ {a : Addr}, a ≠ p → ow1 o p j a = o a := fun {a} n => if_neg n
    have ne : ∀ {a : Addr} {q : Nat × Bool}, o a = some q → a ≠ p := fun {a q} e z => by rw [z, nw.2] at e; cases e
    refine ⟨E1.len, fun a q e => ?_, fun a e => ?_, fun i s e => ?_, nf_own E1 hp rfl, (Lh.new hp).tb E1.tb⟩
    · by_cases z : a = p
      · subst z
        exact ⟨nw.1, _, co_of upd_same, rfl⟩
      · rw [oe z] at e
        obtain ⟨h1, u, h2, h3⟩ := E1.live a q e
        exact ⟨h1, u, le _ _ h2, h3⟩
    · obtain ⟨u, h2, h3⟩ := E1.dead a e
      exact ⟨u, le _ _ h2, h3⟩
    · exact (E1.sl i s e).move (by rw [vw_ow hp]; exact Le.refl _) fun a b u h1 h2 => ⟨by rw [oe (ne h1)]; exact h1, le _ _ h2⟩
  refine sr D0 S1 σ _ _ _ B _ E2 h1.2 (fun ms S2 us H2 o2 h2 E3 f2 M2 => ?_) (kx.on f1.fr)
  exact k _ S2 _ H2 o2 h2 E3 (f1.trans f2) (.cons (MiOk.on (m := .l ds) f2 ⟨p, vs, rfl, if_pos rfl, upd_same, by rw [vw_ow hp]; exact r⟩) M2)
theorem Env.putM [Tbs] {D0 : Addr → Bool} {S : Slots} {σ : St} {H : Hp} {o : Ow} {v : V} {m : Mi} (E : Env D0 S σ H o) (i : Nat) (h : MiOk D0 o H i v m) : Env D0 (S.set i (slotM m)) (σ.set i (some v)) H o := by
  cases m with
  | v d => exact E.put i h
  | l ds =>
    obtain ⟨p, us, h1, h2, h3, h4⟩ := h
    refine ⟨by rw [List.length_set, List.length_set]; exact E.len, E.live, E.dead, fun j s e => ?_, E.nf, E.tb⟩
    by_cases z : i = j
    · subst z
      have hi : i < S.length := by
        have q := (List.getElem?_eq_some_iff.mp e).1
        rw [List.length_set] at q
        exact q
      rw [List.getElem?_set_self hi] at e
      cases e
      exact ⟨p, us, by rw [List.getElem?_set_self (by rw [E.len]; exact hi), h1], h2, co_of h3, h4⟩
    · rw [List.getElem?_set_ne z] at e ⊢
      exact E.sl j s e
  | d es =>
    obtain ⟨p, u, h1, h2, h3, h0, h4⟩ := h
    refine ⟨by rw [List.length_set, List.length_set]; exact E.len, E.live, E.dead, fun j s e => ?_, E.nf, E.tb⟩
    by_cases z : i = j
    · subst z
      have hi : i < S.length := by
        have q := (List.getElem?_eq_some_iff.mp e).1
        rw [List.length_set] at q
        exact q
      rw [List.getElem?_set_self hi] at e
      cases e
      have hc := co_of h3 h4.nt
      rw [h0] at hc
      exact ⟨p, u, by rw [List.getElem?_set_self (by rw [E.len]; exact hi), h1], h2, hc, h4⟩
    · rw [List.getElem?_set_ne z] at e ⊢
      exact E.sl j s e
def puts : List Nat → List Mi → Slots → Slots
  | i :: is, m :: ms, S => puts is ms (S.set i (slotM m))
  | _, _, S => S
def wMix (is : List Nat) (wm : WMi) : WS := fun S P => wm S (fun ms S1 => P.nx (puts is ms S1)) P.ex
theorem Goes.xwF [Tbs] {D0 : Addr → Bool} {o : Ow} {H : Hp} {P : En} {D : Ends} (g : Goes W D0 o H P D) : XwF W D0 o H P.ex := g.ex
theorem ss_mix2 [Tbs] (i j : Nat) {x y : Str} {e1 e2 : Expr} {px py pt : Pos} {kt k2 pt2} {wm : WMi} (a : At X W k) (hm : SM X W [e1, e2] [i, j] wm) (hi : X.N[i]? = some x := by rfl) (hj : X.N[j]? = some y := by rfl) (hij : i ≠ j := by decide)
    (hx : X.env.scope.names.lookup x = some .local := by rfl) (hy : X.env.scope.names.lookup y = some .local := by rfl)
    (hw : swappedStores [.Tuple [.Name x px, .Name y py] kt pt] (.Tuple [e1, e2] k2 pt2) X.env = pure (some [x, y]) := by rfl)
    (hs : swapsWithSole [.Tuple [.Name x px, .Name y py] kt pt] (.Tuple [e1, e2] k2 pt2) pos.line X.env = pure false := by rfl) :
    SS X W (.Assign [.Tuple [.Name x px, .Name y py] kt pt] (.Tuple [e1, e2] k2 pt2) pos) (wMix [i, j] wm) := by
  obtain ⟨ta, pa, sa⟩ := hm.ex
  refine ⟨_, ps_par a.calm a.nd hi hj hij hx hy pa hw hs, ?_⟩
  intro D0 S σ H o P D E hw g
  refine sa D0 S σ H o _ P.ex _ E hw (fun ms S1 vs H1 o1 h1 E1 f1 M => ?_) g.xwF
  cases M with
  | cons m1 M =>
    cases M with
    | cons m2 M =>
      cases M
      exact ⟨_, _, rfl, g.nx _ _ _ o1 h1 ((E1.putM i m1).putM j m2) f1.fr⟩
theorem ss_mix3 [Tbs] (i j l : Nat) {x y z : Str} {e1 e2 e3 : Expr} {px py pz pt : Pos} {kt k2 pt2} {wm : WMi} (a : At X W k) (hm : SM X W [e1, e2, e3] [i, j, l] wm) (hi : X.N[i]? = some x := by rfl) (hj : X.N[j]? = some y := by rfl) (hl : X.N[l]? = some z := by rfl) (hij : i ≠ j := by decide) (hil : i ≠ l := by decide) (hjl : j ≠ l := by decide)
    (hx : X.env.scope.names.lookup x = some .local := by rfl) (hy : X.env.scope.names.lookup y = some .local := by rfl) (hz : X.env.scope.names.lookup z = some .local := by rfl)
    (hw : swappedStores [.Tuple [.Name x px, .Name y py, .Name z pz] kt pt] (.Tuple [e1, e2, e3] k2 pt2) X.env = pure (some [x, y, z]) := by rfl)
    (hs : swapsWithSole [.Tuple [.Name x px, .Name y py, .Name z pz] kt pt] (.Tuple [e1, e2, e3] k2 pt2) pos.line X.env = pure false := by rfl) :
    SS X W (.Assign [.Tuple [.Name x px, .Name y py, .Name z pz] kt pt] (.Tuple [e1, e2, e3] k2 pt2) pos) (wMix [i, j, l] wm) := by
  obtain ⟨ta, pa, sa⟩ := hm.ex
  refine ⟨_, ps_par3 a.calm a.nd hi hj hl hij hil hjl hx hy hz pa hw hs, ?_⟩
  intro D0 S σ H o P D E hw g
  refine sa D0 S σ H o _ P.ex _ E hw (fun ms S1 vs H1 o1 h1 E1 f1 M => ?_) g.xwF
  cases M with
  | cons m1 M =>
    cases M with
    | cons m2 M =>
      cases M with
      | cons m3 M =>
        cases M
        exact ⟨_, _, _, rfl, g.nx _ _ _ o1 h1 (((E1.putM i m1).putM j m2).putM l m3) f1.fr⟩

/-! ### name = [.. for ..] -/
theorem ss_setLcO [Tbs] (i : Nat) {y : Str} {py : Pos} {elt tg iter : Expr} {ifs : List Expr} {scope : Scope} {own : List (Str × Nat)} {spos : Pos} {L : List Nat} {wi : WLs} {wg : WTg} {wt : WTx} {we : WEx} (a : At X W k) (hi : SI X W tg iter wi) (ok : blkC X.N X.env.scope scope own = true)
    (hg : ∀ (s : Shared) (H : Hp) (C : Addr) (cl : List (Str × Addr)) (fp : List Addr), SG (X.blk s H scope (compEnvC scope cl C X.env) fp) tg L wg)
    (ht : ∀ (s : Shared) (H : Hp) (C : Addr) (cl : List (Str × Addr)) (fp : List Addr), At (X.blk s H scope (compEnvC scope cl C X.env) fp) (WN X.mg) k → STs (X.blk s H scope (compEnvC scope cl C X.env) fp) (WN X.mg) ifs wt)
    (he : ∀ (s : Shared) (H : Hp) (C : Addr) (cl : List (Str × Addr)) (fp : List Addr), At (X.blk s H scope (compEnvC scope cl C X.env) fp) (WN X.mg) k → SE (X.blk s H scope (compEnvC scope cl C X.env) fp) (WN X.mg) elt we)
    (hL : ∀ j ∈ L, j ∈ own.map (·.2)) (hy : X.N[i]? = some y := by rfl) (hyl : X.env.scope.names.lookup y = some .local := by rfl) (hk : X.env.scope.kind = .function := by rfl) (hln : (py.line == pos.line) = true := by rfl) (ha : (scope.names.any fun (n, k) => n == y && (k == .local || k == .cell)) = false := by decide)
    (hs : ∀ x, foldedSetIterable iter X.env x = pure x := by intro _; rfl) : SS X W (.Assign [.Name y py] (.ListComp elt [⟨tg, iter, ifs, 0⟩] scope pos) spos) (wOwn i (wLc wi wg wt we (own.map (·.2)))) := by
  obtain ⟨twi, pwi, swi⟩ := hi.ex
  refine ⟨_, ps_setLc a.calm a.nd hy hyl (sw_true hk hyl hln ha) pwi (blkOk_by ok) (fun s H C cl fp => (hg s H C cl fp).pg) (fun s H C cl fp => (ht s H C cl fp (a.blk ..)).pt) (fun s H C cl fp => (he s H C cl fp (a.blk ..)).pe) hs, ?_⟩
  intro D0 S σ H o P D E hw g
  refine snd_lc swi hL D0 S σ H o _ P.ex _ E hw (fun ds c S1 vs q H1 h1 E1 x1 hq V1 => ?_) g.xw
  exact g.nx _ _ _ _ h1.2 (E1.own i hq (V1.clean E1 h1.1)) (x1.fr.trans (fr_own (D0 := D0) (S := S1) (σ := σ) hq))
theorem snd_o [Tbs] {t : TE} {wo : WLs} (so : SndO W t wo) : Snd W t (wO wo) := by
  intro D0 S σ H o A B Q E hw k kx
  refine so D0 S σ H o _ B _ E hw (fun ds c S1 vs p H1 h1 E1 x1 hp V1 => ?_) kx
  exact k _ _ S1 _ _ h1 (E1.xe (Lh.new hp)) (x1.trans (XE.of (Lh.new hp))) (Val.newL E1 hp V1)
theorem ss_setLc [Tbs] (i : Nat) {y : Str} {py : Pos} {elt tg iter : Expr} {ifs : List Expr} {scope : Scope} {own : List (Str × Nat)} {spos : Pos} {L : List Nat} {wi : WLs} {wg : WTg} {wt : WTx} {we : WEx} (a : At X W k) (hi : SI X W tg iter wi) (ok : blkC X.N X.env.scope scope own = true)
    (hg : ∀ (s : Shared) (H : Hp) (C : Addr) (cl : List (Str × Addr)) (fp : List Addr), SG (X.blk s H scope (compEnvC scope cl C X.env) fp) tg L wg)
    (ht : ∀ (s : Shared) (H : Hp) (C : Addr) (cl : List (Str × Addr)) (fp : List Addr), At (X.blk s H scope (compEnvC scope cl C X.env) fp) (WN X.mg) k → STs (X.blk s H scope (compEnvC scope cl C X.env) fp) (WN X.mg) ifs wt)
    (he : ∀ (s : Shared) (H : Hp) (C : Addr) (cl : List (Str × Addr)) (fp : List Addr), At (X.blk s H scope (compEnvC scope cl C X.env) fp) (WN X.mg) k → SE (X.blk s H scope (compEnvC scope cl C X.env) fp) (WN X.mg) elt we)
    (hL : ∀ j ∈ L, j ∈ own.map (·.2)) (hy : X.N[i]? = some y := by rfl) (hyl : X.env.scope.names.lookup y = some .local := by rfl) (hk : X.env.scope.kind = .function := by rfl) (hln : (py.line == pos.line) = true := by rfl) (ha : (scope.names.any fun (n, k) => n == y && (k == .local || k == .cell)) = false := by decide)
    (hs : ∀ x, foldedSetIterable iter X.env x = pure x := by intro _; rfl) : SS X W (.Assign [.Name y py] (.ListComp elt [⟨tg, iter, ifs, 0⟩] scope pos) spos) (wSet i (wO (wLc wi wg wt we (own.map (·.2))))) := by
  obtain ⟨twi, pwi, swi⟩ := hi.ex
  refine ⟨_, ps_setLc a.calm a.nd hy hyl (sw_true hk hyl hln ha) pwi (blkOk_by ok) (fun s H C cl fp => (hg s H C cl fp).pg) (fun s H C cl fp => (ht s H C cl fp (a.blk ..)).pt) (fun s H C cl fp => (he s H C cl fp (a.blk ..)).pe) hs, ?_⟩
  intro D0 S σ H o P D E hw g
  refine snd_o (snd_lc swi hL) D0 S σ H o _ P.ex _ E hw (fun d c S1 v H1 h1 E1 x1 V1 => ?_) g.xw
  exact g.nx _ _ _ _ h1.2 (E1.put i ((V1.flat E1).2 h1.1)) x1.fr

/-! ### a comparison as a test -/
theorem st_cmp [Tbs] {op : CmpOp} {g : R2D} {a b : Expr} {wa wb : WEx} (ho : Op2 X (compareOp op) g) (ha : SE X W a wa) (hb : SE X W b wb) (hm : behindInMarks op b = false := by first | exact nobehind _ (by decide) (by decide) | rfl) : ST X W (.Compare a [op] [b] pos) (wB (wOp g wa wb)) := by
  obtain ⟨ta, pa, sa⟩ := ha.ex
  obtain ⟨tb, pb, sb⟩ := hb.ex
  obtain ⟨r, hr, h⟩ := ho.ex
  refine ⟨_, pt_cmpR hr pa pb hm, ?_⟩
  intro D0 S σ H o A B Q E hw k kx
  refine snd_op sa sb h D0 S σ H o _ B _ E hw (fun d c S1 v H1 h1 E1 x1 V1 => ?_) kx
  obtain ⟨b, rfl, h'⟩ := bl_rp V1.1 h1
  exact ⟨b, rfl, k b S1 H1 h' E1 x1⟩
end
end Pu

namespace Pu
open PySem L2
theorem bt_int : bootBuiltins "int" = some (.type "int") := by decide +kernel
theorem bt_bool : bootBuiltins "bool" = some (.type "bool") := by decide +kernel
theorem bt_list : bootBuiltins "list" = some (.type "list") := by decide +kernel
theorem bt_tuple : bootBuiltins "tuple" = some (.type "tuple") := by decide +kernel
theorem bt_str : bootBuiltins "str" = some (.type "str") := by decide +kernel
theorem bt_dict : bootBuiltins "dict" = some (.type "dict") := by decide +kernel
theorem bb_len : bootBuiltins "len" = some (.builtin "len") := by decide +kernel
theorem bb_max : bootBuiltins "max" = some (.builtin "max") := by decide +kernel
theorem bb_min : bootBuiltins "min" = some (.builtin "min") := by decide +kernel
theorem bb_sum : bootBuiltins "sum" = some (.builtin "sum") := by decide +kernel
theorem bb_sorted : bootBuiltins "sorted" = some (.builtin "sorted") := by decide +kernel
section
variable {X : Cx} {W : WM} {k : Nat} {pos : Pos}
/-- h = _law_mix(_law_script, seed) -/
theorem ps_mix [Tbs] {j : Nat} {seed : Int} (i : Nat) {h : Str} {p q r u cp : Pos} {z} (a : At X W k) (F : Def X.prog X.w X.K X.mg X.base j "_law_mix" 2 (spMix X.K)) (hj : j ≤ k) (hN : X.N[0]? = some ("_law_script" : Str) := by rfl) (hv : Vis X.env.scope "_law_script" := by first | exact Or.inl rfl | exact Or.inr (Or.inl rfl) | exact Or.inr (Or.inr rfl))
    (hi : X.N[i]? = some h := by rfl) (hx : Loc X.env.scope h := by first | exact Or.inl rfl | exact Or.inr rfl) (hf : X.fn h = true ∨ X.env.scope.names.lookup h = some .local := by first | exact .inl rfl | exact .inr rfl) (hg : Gl X "_law_mix" := by rfl)
    (hst : starEach [.Name "_law_script" r, .Constant (.int seed) z u] X.env = (false, eval (.Name "_law_script" r) X.env) :: starEach [.Constant (.int seed) z u] X.env := by rfl) (hst2 : starEach [.Constant (.int seed) z u] X.env = (false, eval (.Constant (.int seed) z u) X.env) :: starEach [] X.env := by rfl)
    (hpl : (backTo cp (starEach [.Constant (.int seed) z u] X.env)).any (·.1) = false := by rfl) (hs : swapsWith (.Call (.Name "_law_mix" q) [.Name "_law_script" r, .Constant (.int seed) z u] [] cp) (some (.Name h p)) pos.line X.env = pure false := by rfl) :
    PS X (.Assign [.Name h p] (.Call (.Name "_law_mix" q) [.Name "_law_script" r, .Constant (.int seed) z u] [] cp) pos) (tAsg (tCallS (spMix X.K) (WE W.w) (tCons (tVar 0) (tCons (tC (.int seed)) tNil))) (gName i)) := by
  obtain ⟨f, fd, ps, G, hm, hk, hb, hps⟩ := F.ex
  exact ps_set a.nd hi hx (pe_callS G (a.room.mono hj) hg hm hk hb a.tk (pa_cons (pe_var hN hv) (pa_cons pe_int pa_nil hst2) hst) (by decide) hst hpl) hs hf

/-! ### a, b, .. = x, y, .. by a tuple -/
def gNs : List Nat → TGs
  | [] => gNil
  | i :: is => gCons (gName i) (gNs is)
theorem gNs_ok [Tbs] {D0 : Addr → Bool} {o : Ow} {H : Hp} {K : Slots → Prop} {Q : St → Hp → Prop} : ∀ {js : List Nat} {vs : List V} {ms : List Mi} {S : Slots} {σ : St}, MisOk D0 o H js vs ms → Env D0 S σ H o → K (puts js ms S) → (∀ S' σ', K S' → Env D0 S' σ' H o → Q σ' H) → gNs js vs σ H Q
  | _, _, _, S, σ, .nil, E, hK, k => ⟨rfl, k S σ hK E⟩
  | _, _, _, S, σ, .cons (j := j) (x := x) a b, E, hK, k => ⟨_, _, rfl, gNs_ok b (E.putM j a) hK k⟩
theorem ss_mixT [Tbs] {n kt : Nat} {is : List Nat} {tgs es : List Expr} {pt pt2 : Pos} {k2} {wm : WMi} (a : At X W k) (hm : SM X W es is wm) (hp : PGs X tgs (gNs is)) (hlen : is.length = n := by rfl) (hle : n ≤ 20 := by decide) (hn : (assignEach tgs X.env).length = n := by rfl) (hst : (assignEach tgs X.env).findIdx? (·.1) = none := by rfl)
    (hs : swapsWithSole [.Tuple tgs kt pt] (.Tuple es k2 pt2) pos.line X.env = pure false := by rfl) (hw : swappedStores [.Tuple tgs kt pt] (.Tuple es k2 pt2) X.env = pure none := by rfl)
    (h1 : (assignEach [.Tuple tgs kt pt] X.env).map (·.2) = [assign (.Tuple tgs kt pt) X.env] := by rfl) : SS X W (.Assign [.Tuple tgs kt pt] (.Tuple es k2 pt2) pos) (wMix is wm) := by
  obtain ⟨ta, pa, sa⟩ := hm.ex
  refine ⟨_, ps_asg (pe_tup pa) (pg_tup a.calm hp hn hst) hs hw h1, ?_⟩
  intro D0 S σ H o P D E hw g
  refine sa D0 S σ H o _ P.ex _ E hw (fun ms S1 vs H1 o1 h1 E1 f1 M => ?_) g.xwF
  have hl : ∀ {js : List Nat} {vs : List V} {ms : List Mi}, MisOk D0 o1 H1 js vs ms → vs.length = js.length := fun {js vs ms} m => by
    induction m with
    | nil => rfl
    | cons _ _ ih => rw [List.length_cons, List.length_cons, ih]
  have hv : vs.length = n := (hl M).trans hlen
  refine ⟨by rw [hv, sizeLine_eq]; omega, fun p hp => ?_⟩
  have x2 := XE.of (o := o1) (Lh.new (u := .tup vs) hp)
  have E2 := E1.xe (Lh.new (u := .tup vs) hp)
  have on : ∀ {js : List Nat} {vs' : List V} {ms : List Mi}, MisOk D0 o1 H1 js vs' ms → MisOk D0 o1 (upd H1 p (.tup vs)) js vs' ms := fun {js vs' ms} m => by
    induction m with
    | nil => exact .nil
    | cons a _ ih => exact .cons (a.on x2.frM) ih
  refine ⟨p, vs, rfl, SqT.at upd_same, hv, gNs_ok (on M) E2 h1 fun S' σ' hk E' => ?_⟩
  exact g.nx _ _ _ o1 hk E' (f1.fr.trans x2.fr)
end
theorem loose_int {lv : List (Str × PySem.W.WData)} {mg : Str → Option Value} {g : Heap} {x : Str} {i : Int} (L : PySem.W.LooseAre lv mg g) (h : (x, PySem.W.WData.int i) ∈ lv) : ∃ t, mg x = some (.int i t) := by
  obtain ⟨v, hv, r⟩ := L.val _ h
  cases r
  exact ⟨_, hv⟩
/-- law's walk: what the row asks, from the def's own promise -/
theorem law_walk [Tbs] {l : PySem.W.OpenLaw} {q qv : Program} {loose : List Str} {lv : List (Str × PySem.W.WData)} {YP : World → Heap → Prop} {d : DefRec} {FK : PySem.Params → PySem.W.Frag} {k : Nat} (m : l.most = some 63) (df : d.params.defaults = []) (rm : Room k callerA)
    (ki : ∀ w g, YP w g → (FK w.params).In g)
    (F : ∀ (w : World) (mg : Str → Option Value) (fa : Addr) (g : Heap), (FK w.params).In g → g.Ns mainGlobals mg → PySem.W.LooseAre lv mg g → mg d.name = some (.ref fa) →
      ∃ fd : FuncData, (∀ (s : Shared) (v : Value), BindsTo s fd ⟨[v], []⟩ [("_law_script", v)]) ∧ ∀ base : Heap, (FK w.params).In base → base.Ns mainGlobals mg → FnOk l.prog w (FK w.params) mg base (L2.CX l.prog w) k fa fd ["_law_script"] (@spLaw ⟨[]⟩ (FK w.params))) :
    PySem.W.WalkO q loose (PySem.W.XL qv lv) YP l.row.toRowW d [] (fun f vs => PySem.call f vs) := by
  refine Att.attach_call m df fun w s0 s1 mg mb fa ob pm cd doc a vs ns G Y ho hd hcd hmg hobj hints hlen hg => ?_
  obtain ⟨fd, hb, hF⟩ := F w mg fa _ (ki w _ Y) G.T.g G.X.2 hmg
  exact law_call (ki w _ Y) G.T.g G.T.b G.T.builtins G.T.nolimit hg hobj hints (by rw [sizeLine_eq]; omega) rm hF hb (fun H _ hS => ⟨(fun p hp => nomatch hp), a, ns, rfl, hS, hlen, fun _ => rfl⟩) fun H e s' z => by
    obtain ⟨_, _, _, _, _, _, _, _, _, _, _, _, z⟩ := z
    exact z
end Pu

namespace Pu
open PySem L2
section
variable {X : Cx} {W : WM} {k : Nat} {pos : Pos}
/-! ### xs.index(y): the first place of an equal one -/
def wIdx (wl we : WEx) : WEx := fun S A B => wl S (fun d _ S1 => match d with
  | .list xs => we S1 (fun y _ S2 => SeqAt.shaped (.list xs) = true ∧ SeqAt.shaped y = true ∧ ∃ (j : Nat) (z : PyData), xs[j]? = some z ∧ PyData.eqv z y = true ∧ (∀ (m : Nat) (z' : PyData), m < j → xs[m]? = some z' → PyData.eqv z' y = false) ∧ A (.int (j : Nat)) True S2) B
  | _ => False) B
theorem se_idx [Tbs] {o e : Expr} {ap cp : Pos} {wl we : WEx} (a : At X W k) (ho : SE X W o wl) (he : SE X W e we)
    (hb : attributeBase o "index" X.env (eval o X.env) = eval o X.env := by rfl)
    (hfew : ((backTo cp (starEach [e] X.env)).all (fun x => !x.1) && (backToKw cp (keywordEach [] X.env)).all (fun x => x.1.isSome) && decide ([e].length + ([] : List Keyword).length + (if ([] : List Keyword).isEmpty then 0 else 1) < 30)) = true := by rfl)
    (hl : (ap.endLine == cp.line) = true := by rfl) (hst : starEach [e] X.env = (false, eval e X.env) :: starEach [] X.env := by rfl) (hpl : (backTo cp (starEach [] X.env)).any (·.1) = false := by rfl) :
    SE X W (.Call (.Attribute o "index" ap) [e] [] cp) (wIdx wl we) := by
  obtain ⟨to, po, so⟩ := ho.ex
  obtain ⟨te, pe, se⟩ := he.ex
  refine ⟨_, pe_bm PySem.F.plainAttrs_list PySem.F.slot_list_index PySem.F.type_list_index (mt_indexD a.u65) po (pa_cons pe pa_nil hst) hb hfew hl hst hpl, ?_⟩
  intro D0 S σ H o A B Q E hw kk kx
  refine so D0 S σ H o _ B _ E hw (fun d c S1 v H1 h1 E1 x1 V1 => ?_) kx
  split at h1
  · rename_i xs
    obtain ⟨p, vs, rfl, ep, rp, cp⟩ := V1.items E1
    refine ⟨.inl ⟨rfl, vs, SqL.at ep⟩, se D0 S1 σ H1 o _ B _ E1 h1 (fun y cy S2 u H2 h2 E2 x2 V2 => ?_) (kx.on x1)⟩
    obtain ⟨s1, s2, j, z, hz, hj, hno, h2⟩ := h2
    have V1' := V1.mono x2
    exact ⟨p, u, y, xs, j, z, rfl, rfl, V1'.dp s1, V2.dp s2, s1, s2, hz, hj, hno, kk _ _ S2 _ H2 h2 E2 (x1.trans x2) (Val.of (.int _))⟩
  · exact h1.elim
end
end Pu

namespace Pu
open PySem L2
section
variable {X : Cx} {W : WM} {k : Nat} {pos : Pos}

/-! ### parts of slices -/
abbrev WP := Slots → (Option Int → Slots → Prop) → EK → Prop
def SndP [Tbs] (W : WM) (t : TO) (w : WP) : Prop := ∀ (D0 : Addr → Bool) (S : Slots) (σ : St) (H : Hp) (o : Ow) (A : Option Int → Slots → Prop) (B : EK) (Q : Option Int → Hp → Prop), Env D0 S σ H o → w S A B →
  (∀ u S' H', A u S' → Env D0 S' σ H' o → XE o H H' → Q u H') → Xw W D0 σ o H B → t σ H Q
structure SP [Tbs] (X : Cx) (W : WM) (e : Option Expr) (w : WP) : Prop where
  ex : ∃ t, PO X e t ∧ SndP W t w
def wPn : WP := fun S A _ => A none S
def wPs (we : WEx) : WP := fun S A B => we S (fun d _ S1 => match d with
  | .int i => A (some i) S1
  | _ => False) B
theorem sp_none [Tbs] : SP X W none wPn := ⟨_, po_none, fun D0 S σ H o A B Q E hw k kx => k _ _ H hw E (XE.refl o H)⟩
theorem sp_some [Tbs] {e : Expr} {we : WEx} (he : SE X W e we) : SP X W (some e) (wPs we) := by
  obtain ⟨te, pe, se⟩ := he.ex
  refine ⟨_, po_some pe, ?_⟩
  intro D0 S σ H o A B Q E hw k kx
  refine se D0 S σ H o _ B _ E hw (fun d c S1 v H1 h1 E1 x1 V1 => ?_) kx
  split at h1
  · cases V1.1
    exact ⟨_, rfl, k _ S1 H1 h1 E1 x1⟩
  · exact h1.elim
/-- the items of xs[lo:hi] -/
def cutL {α : Type} (xs : List α) (lo hi : Option Int) : List α := (xs.drop (HT.sIx xs.length 0 lo)).take (HT.sIx xs.length xs.length hi - HT.sIx xs.length 0 lo)
theorem rp_cut {G : Hp} {vs : List V} {ds : List PyData} (r : RpAll G vs ds) (lo hi : Option Int) : RpAll G (cutV vs lo hi) (cutL ds lo hi) := by
  unfold cutV cutL
  rw [r.length]
  exact (r.drop _).take _
theorem cut_all {α : Type} {xs : List α} {lo hi : Option Int} (h : HT.sIx xs.length 0 lo = 0 ∧ HT.sIx xs.length xs.length hi = xs.length) : cutL xs lo hi = xs := by
  unfold cutL
  rw [h.1, h.2]
  simp
theorem flats_cut {ds : List PyData} (h : flats ds = true) (lo hi : Option Int) : flats (cutL ds lo hi) = true := flats_iff.mpr fun x hx => flats_iff.mp h x (List.mem_of_mem_drop (List.mem_of_mem_take hx))
def wSl (we : WEx) (wl wh : WP) : WLs := fun S A B => we S (fun d c S1 => match d with
  | .list xs => wl S1 (fun lo S2 => wh S2 (fun hi S3 => A (cutL xs lo hi) (c ∨ flats xs = true) S3) B) B
  | _ => False) B
theorem so_sl [Tbs] {e : Expr} {lo hi : Option Expr} {p2 : Pos} {we : WEx} {wl wh : WP} (he : SE X W e we) (hl : SP X W lo wl) (hh : SP X W hi wh) : SO X W (.Subscript e (.Slice lo hi none p2) pos) (wSl we wl wh) := by
  obtain ⟨te, pe, se⟩ := he.ex
  obtain ⟨tl, pl, sl⟩ := hl.ex
  obtain ⟨th, ph, sh⟩ := hh.ex
  refine ⟨_, pe_slice sl_list pe pl ph, ?_⟩
  intro D0 S σ H o A B Q E hw kk kx
  refine se D0 S σ H o _ B _ E hw (fun d c S1 v H1 h1 E1 x1 V1 => ?_) kx
  split at h1
  · rename_i xs
    refine sl D0 S1 σ H1 o _ B _ E1 h1 (fun l S2 H2 h2 E2 x2 => sh D0 S2 σ H2 o _ B _ E2 h2 (fun u S3 H3 h3 E3 x3 => ?_) (kx.on (x1.trans x2))) (kx.on x1)
    have V3 := (V1.mono x2).mono x3
    obtain ⟨a, vs, rfl, ea, ra, ca⟩ := V3.items E3
    exact ⟨a, vs, rfl, SqL.at ea, fun p hp => kk _ _ S3 _ p H3 h3 E3 ((x1.trans x2).trans x3) hp ⟨rp_cut ra l u, fun z => rp_cut (ca z) l u⟩⟩
  · exact h1.elim
def wSlt (we : WEx) (wl wh : WP) : WEx := fun S A B => we S (fun d c S1 => match d with
  | .tuple xs => wl S1 (fun lo S2 => wh S2 (fun hi S3 => A (.tuple (cutL xs lo hi)) (c ∨ flats xs = true) S3) B) B
  | _ => False) B
theorem se_slt [Tbs] {e : Expr} {lo hi : Option Expr} {p2 : Pos} {we : WEx} {wl wh : WP} (he : SE X W e we) (hl : SP X W lo wl) (hh : SP X W hi wh) : SE X W (.Subscript e (.Slice lo hi none p2) pos) (wSlt we wl wh) := by
  obtain ⟨te, pe, se⟩ := he.ex
  obtain ⟨tl, pl, sl⟩ := hl.ex
  obtain ⟨th, ph, sh⟩ := hh.ex
  refine ⟨_, pe_slice sl_tupA pe pl ph, ?_⟩
  intro D0 S σ H o A B Q E hw kk kx
  refine se D0 S σ H o _ B _ E hw (fun d c S1 v H1 h1 E1 x1 V1 => ?_) kx
  split at h1
  · rename_i xs
    refine sl D0 S1 σ H1 o _ B _ E1 h1 (fun l S2 H2 h2 E2 x2 => sh D0 S2 σ H2 o _ B _ E2 h2 (fun u S3 H3 h3 E3 x3 => ?_) (kx.on (x1.trans x2))) (kx.on x1)
    have V3 := (V1.mono x2).mono x3
    have V4 := V3.flat E3
    obtain ⟨a, vs, rfl, ea, ra, ca⟩ := V3.titems E3
    refine ⟨a, vs, rfl, SqT.at ea, fun hw => ?_, fun hw p hp => ?_⟩
    · rw [ra.length] at hw
      rw [cut_all hw] at h3
      exact kk _ _ S3 _ H3 h3 E3 ((x1.trans x2).trans x3) ⟨V4.1, fun z => V4.2 (by rw [flat]; exact z)⟩
    · exact kk _ _ S3 _ _ h3 (E3.xe (Lh.new hp)) (((x1.trans x2).trans x3).trans (XE.of (Lh.new hp))) (Val.newT E3 hp ⟨rp_cut ra l u, fun z => rp_cut (ca z) l u⟩)
  · exact h1.elim

/-! ### texts -/
def strs? : List PyData → Option (List Str)
  | [] => some []
  | .str s :: r => (strs? r).map (s :: ·)
  | _ :: _ => none
theorem strs?_map : ∀ ns : List Str, strs? (ns.map PyData.str) = some ns
  | [] => rfl
  | n :: r => by
    show (strs? (r.map PyData.str)).map (n :: ·) = _
    rw [strs?_map r]
    rfl
theorem strs?_of : ∀ {ds : List PyData} {ns : List Str}, strs? ds = some ns → ds = ns.map PyData.str
  | [], _, h => by cases h; rfl
  | .str i :: r, ns, h => by
    unfold strs? at h
    cases e : strs? r with
    | none => rw [e] at h; cases h
    | some l =>
      rw [e] at h
      cases h
      rw [strs?_of e]
      rfl
  | .none :: _, _, h => by cases h
  | .bool _ :: _, _, h => by cases h
  | .int _ :: _, _, h => by cases h
  | .list _ :: _, _, h => by cases h
  | .tuple _ :: _, _, h => by cases h
  | .dict _ :: _, _, h => by cases h
theorem RpAll.strs {G : Hp} : ∀ {vs : List V} {ns : List Str}, RpAll G vs (ns.map PyData.str) → vs = ns.map V.str
  | _, [], h => by cases h; rfl
  | _, n :: r, h => by
    cases h with
    | cons a b => cases a; rw [b.strs]; rfl
theorem RpAll.of_strs {G : Hp} : ∀ (ns : List Str), RpAll G (ns.map V.str) (ns.map PyData.str)
  | [] => .nil
  | n :: r => .cons (.str n) (RpAll.of_strs r)
def wSplit (wo we : WEx) : WLs := fun S A B => wo S (fun d _ S1 => match d with
  | .str a => we S1 (fun y _ S2 => match y with
    | .str b => (b.length == 0) = false ∧ a.length + 2 ≤ sizeLine ∧ A ((Txt.split a b).map .str) True S2
    | _ => False) B
  | _ => False) B
theorem so_split [Tbs] {o e : Expr} {ap : Pos} {wo we : WEx} (ho : SE X W o wo) (he : SE X W e we) (hs : starEach [e] X.env = [(false, eval e X.env)] := by rfl) (hbase : attributeBase o "split" X.env (eval o X.env) = eval o X.env := by rfl) (hline : (ap.endLine == pos.line) = true := by rfl) :
    SO X W (.Call (.Attribute o "split" ap) [e] [] pos) (wSplit wo we) := by
  obtain ⟨to, po, so⟩ := ho.ex
  obtain ⟨te, pe, se⟩ := he.ex
  refine ⟨_, pe_split po pe hs hbase hline, ?_⟩
  intro D0 S σ H o A B Q E hw kk kx
  refine so D0 S σ H o _ B _ E hw (fun d c S1 v H1 h1 E1 x1 V1 => ?_) kx
  split at h1
  · cases V1.1
    refine ⟨⟨_, rfl⟩, se D0 S1 σ H1 o _ B _ E1 h1 (fun y cy S2 u H2 h2 E2 x2 V2 => ?_) (kx.on x1)⟩
    split at h2
    · cases V2.1
      exact ⟨_, _, rfl, rfl, h2.1, h2.2.1, fun p hp => kk _ _ S2 _ p H2 h2.2.2 E2 (x1.trans x2) hp ⟨RpAll.of_strs _, fun _ => RpAll.of_strs _⟩⟩
    · exact h2.elim
  · exact h1.elim
def wJoin (wo we : WEx) : WEx := fun S A B => wo S (fun d _ S1 => match d with
  | .str a => we S1 (fun y _ S2 => match y with
    | .list ys => ∃ zs, strs? ys = some zs ∧ (zs.map (·.length)).sum + zs.length * a.length ≤ 16777216 ∧ A (.str (Txt.join a zs)) True S2
    | _ => False) B
  | _ => False) B
theorem se_join [Tbs] {o e : Expr} {ap : Pos} {wo we : WEx} (ho : SE X W o wo) (he : SE X W e we) (hs : starEach [e] X.env = [(false, eval e X.env)] := by rfl) (hbase : attributeBase o "join" X.env (eval o X.env) = eval o X.env := by rfl) (hline : (ap.endLine == pos.line) = true := by rfl) :
    SE X W (.Call (.Attribute o "join" ap) [e] [] pos) (wJoin wo we) := by
  obtain ⟨to, po, so⟩ := ho.ex
  obtain ⟨te, pe, se⟩ := he.ex
  refine ⟨_, pe_join po pe hs hbase hline, ?_⟩
  intro D0 S σ H o A B Q E hw kk kx
  refine so D0 S σ H o _ B _ E hw (fun d c S1 v H1 h1 E1 x1 V1 => ?_) kx
  split at h1
  · cases V1.1
    refine ⟨⟨_, rfl⟩, se D0 S1 σ H1 o _ B _ E1 h1 (fun y cy S2 u H2 h2 E2 x2 V2 => ?_) (kx.on x1)⟩
    split at h2
    · obtain ⟨zs, hz, hb, h2⟩ := h2
      obtain ⟨p, vs, rfl, ep, rp, cp⟩ := V2.items E2
      rw [strs?_of hz] at rp
      rw [rp.strs] at ep
      exact ⟨_, p, zs, rfl, rfl, .inl (SqL.at ep), hb, kk _ _ S2 _ H2 h2 E2 (x1.trans x2) (Val.of (.str _))⟩
    · exact h2.elim
  · exact h1.elim
def wRstrip (wo : WEx) : WEx := fun S A B => wo S (fun d _ S1 => match d with
  | .str a => a.length ≤ sizeLine ∧ A (.str (Txt.rstrip a)) True S1
  | _ => False) B
theorem se_rstrip [Tbs] {o : Expr} {ap : Pos} {wo : WEx} (ho : SE X W o wo) (hbase : attributeBase o "rstrip" X.env (eval o X.env) = eval o X.env := by rfl) (hline : (ap.endLine == pos.line) = true := by rfl) :
    SE X W (.Call (.Attribute o "rstrip" ap) [] [] pos) (wRstrip wo) := by
  obtain ⟨to, po, so⟩ := ho.ex
  refine ⟨_, pe_m0 F.slot_str_rstrip F.type_str_rstrip mt_rstrip po hbase hline, ?_⟩
  intro D0 S σ H o A B Q E hw kk kx
  refine so D0 S σ H o _ B _ E hw (fun d c S1 v H1 h1 E1 x1 V1 => ?_) kx
  split at h1
  · cases V1.1
    exact ⟨⟨_, rfl⟩, _, rfl, rfl, h1.1, kk _ _ S1 _ H1 h1.2 E1 x1 (Val.of (.str _))⟩
  · exact h1.elim
/-! f-strings -/
def wFmt (we : WEx) : WEx := fun S A B => we S (fun d _ S1 => match d with
  | .str y => y.length ≤ sizeLine ∧ A (.str y) True S1
  | .int i => i.natAbs.log2 < 1920 ∧ A (.str (toString i)) True S1
  | _ => False) B
theorem se_fmt [Tbs] {e : Expr} {we : WEx} (he : SE X W e we) : SE X W (.FormattedValue e (-1) none pos) (wFmt we) := by
  obtain ⟨te, pe, se⟩ := he.ex
  refine ⟨_, pe_fmt pe, ?_⟩
  intro D0 S σ H o A B Q E hw kk kx
  refine se D0 S σ H o _ B _ E hw (fun d c S1 v H1 h1 E1 x1 V1 => ?_) kx
  split at h1
  · cases V1.1
    exact .inl ⟨_, rfl, h1.1, kk _ _ S1 _ H1 h1.2 E1 x1 (Val.of (.str _))⟩
  · cases V1.1
    exact .inr ⟨_, rfl, h1.1, kk _ _ S1 _ H1 h1.2 E1 x1 (Val.of (.str _))⟩
  · exact h1.elim
abbrev WJ := Str → Slots → (Str → Slots → Prop) → EK → Prop
structure SJ [Tbs] (X : Cx) (W : WM) (es : List Expr) (w : WJ) : Prop where
  ex : ∃ ts, PJ X es ts ∧ ∀ (acc : Str) (D0 : Addr → Bool) (S : Slots) (σ : St) (H : Hp) (o : Ow) (A : Str → Slots → Prop) (B : EK) (Q : Str → Hp → Prop), Env D0 S σ H o → w acc S A B →
    (∀ u S' H', A u S' → Env D0 S' σ H' o → XE o H H' → Q u H') → Xw W D0 σ o H B → tJs ts acc σ H Q
def wJNil : WJ := fun acc S A _ => A acc S
def wJCons (we : WEx) (wr : WJ) : WJ := fun acc S A B => we S (fun d _ S1 => match d with
  | .str y => (acc ++ y).length ≤ sizeLine ∧ wr (acc ++ y) S1 A B
  | _ => False) B
theorem sj_nil [Tbs] : SJ X W [] wJNil := ⟨_, .nil, fun acc D0 S σ H o A B Q E hw k kx => k _ _ H hw E (XE.refl o H)⟩
theorem sj_cons [Tbs] {e : Expr} {es : List Expr} {we : WEx} {wr : WJ} (he : SE X W e we) (hr : SJ X W es wr) : SJ X W (e :: es) (wJCons we wr) := by
  obtain ⟨te, pe, se⟩ := he.ex
  obtain ⟨ts, pr, sr⟩ := hr.ex
  refine ⟨_, .cons pe pr, ?_⟩
  intro acc D0 S σ H o A B Q E hw kk kx
  refine se D0 S σ H o _ B _ E hw (fun d c S1 v H1 h1 E1 x1 V1 => ?_) kx
  split at h1
  · cases V1.1
    exact ⟨_, rfl, h1.1, sr _ D0 S1 σ H1 o A B Q E1 h1.2 (fun u S2 H2 h2 E2 x2 => kk u S2 H2 h2 E2 (x1.trans x2)) (kx.on x1)⟩
  · exact h1.elim
def wJs (wj : WJ) : WEx := fun S A B => wj Str.empty S (fun u S1 => A (.str u) True S1) B
theorem se_js [Tbs] {v1 v2 : Expr} {rest : List Expr} {wj : WJ} (h : SJ X W (v1 :: v2 :: rest) wj) : SE X W (.JoinedStr (v1 :: v2 :: rest) pos) (wJs wj) := by
  obtain ⟨ts, pj, sj⟩ := h.ex
  refine ⟨_, pe_joined pj, ?_⟩
  intro D0 S σ H o A B Q E hw kk kx
  exact sj _ D0 S σ H o _ B _ E hw (fun u S1 H1 h1 E1 x1 => kk _ _ S1 _ H1 h1 E1 x1 (Val.of (.str _))) kx
/-! str(n), int(text) -/
def gStr : RD := fun ds _ K => match ds with
  | [.int i] => i.natAbs.log2 < 1920 ∧ K (.str (toString i)) True
  | _ => False
theorem f_str [Tbs] : Fn X (.type "str") gStr := by
  refine ⟨_, call_str_int, ?_⟩
  intro D0 S σ o H vs ds c K Q E V hg k
  unfold gStr at hg
  split at hg
  · obtain ⟨v, rfl, U⟩ := vals1 V
    cases U.1
    exact ⟨_, rfl, hg.1, k _ _ _ H hg.2 (Lh.refl H) (Val.of (.str _))⟩
  · exact hg.elim
def gIntS : RD := fun ds _ K => match ds with
  | [.str a] => ∃ n, PySem.intText? a = some n ∧ a.length ≤ 640 ∧ K (.int n) True
  | _ => False
theorem f_intS [Tbs] : Fn X (.type "int") gIntS := by
  refine ⟨_, call_int_str, ?_⟩
  intro D0 S σ o H vs ds c K Q E V hg k
  unfold gIntS at hg
  split at hg
  · obtain ⟨v, rfl, U⟩ := vals1 V
    cases U.1
    obtain ⟨n, h1, h2, h3⟩ := hg
    exact ⟨_, n, rfl, h1, h2, k _ _ _ H h3 (Lh.refl H) (Val.of (.int _))⟩
  · exact hg.elim
/-! a text walked sign by sign -/
def signsD (x : Str) : List PyData := x.cps.toList.map fun c => PyData.str ⟨#[c]⟩
theorem wk_str [Tbs] {x : Str} : Wk (Its x) (signsD x) True (fun _ _ _ => True) where
  go := fun D0 o H i _ hi => by
    have : (signsD x).length = x.cps.size := by unfold signsD; rw [List.length_map, Array.length_toList]
    show i < x.cps.size
    omega
  stop := fun D0 o H _ => by
    have : (signsD x).length = x.cps.size := by unfold signsD; rw [List.length_map, Array.length_toList]
    show x.cps.size ≤ (signsD x).length
    omega
  yld := fun D0 S σ o H i y H' d _ E hd hy => by
    obtain ⟨rfl, c, hc, rfl⟩ := hy
    unfold signsD at hd
    rw [List.getElem?_map, Array.getElem?_toList, hc] at hd
    cases hd
    exact ⟨Lh.refl _, Val.of (.str _)⟩
  xe := fun _ _ _ _ _ _ _ _ _ => trivial
  fr := fun _ _ _ _ _ _ _ _ _ => trivial
def wIS (wl : WEx) : WLs := fun S A B => wl S (fun d _ S1 => match d with
  | .str x => A (signsD x) True S1
  | _ => False) B
theorem si_s [Tbs] {tg e : Expr} {we : WEx} (he : SE X W e we) : SI X W tg e (wIS we) := by
  obtain ⟨te, pe, se⟩ := he.ex
  refine ⟨_, pi_str pe, ?_⟩
  intro D0 S σ H o A B R E hw k kx
  refine se D0 S σ H o _ B _ E hw (fun d c S1 v H1 h1 E1 x1 V1 => ?_) kx
  split at h1
  · cases V1.1
    exact ⟨_, rfl, k _ _ S1 _ H1 _ h1 E1 x1 wk_str trivial⟩
  · exact h1.elim
def gSignNotIn : R2D := fun x _ y _ K => match x, y with
  | .str ⟨⟨[c]⟩⟩, .str z => K (.bool (!decide (c ∈ z.cps.toList))) True
  | _, _ => False
theorem o_signNotIn [Tbs] : Op2 X (compareOp .NotIn) gSignNotIn :=
  ⟨_, op_notIn_sign, fun D0 S σ o H x y dx dy cx cy K Q E Vx Vy hg k => by
    unfold gSignNotIn at hg
    split at hg
    · cases Vx.1
      cases Vy.1
      exact ⟨_, _, rfl, rfl, k _ _ _ H hg (Lh.refl H) (Val.of (.bl _))⟩
    · exact hg.elim⟩
end
end Pu

namespace Pu
open PySem L2
section
variable {X : Cx} {W : WM} {k : Nat} {pos : Pos}

/-! ### a text so many times -/
def gMulT : R2D := fun x _ y _ K => match x, y with
  | .str z, .int n => 2 ≤ n ∧ n ≤ 1000 ∧ 1 ≤ z.length ∧ z.length ≤ 1000 ∧ K (.str (Txt.mul z n)) True
  | _, _ => False
theorem op_mul_str : OpR X (binaryOp .Mult) (fun x y H Q => ∃ (z : Str) (n : Int), x = .str z ∧ y = .int n ∧ 2 ≤ n ∧ n ≤ 1000 ∧ 1 ≤ z.length ∧ z.length ≤ 1000 ∧ Q (.str (Txt.mul z n)) H) := by
  intro pins s σ H x y v u Q I rx ry h
  obtain ⟨z, n, rfl, rfl, h2, h1000, hz1, hz, q⟩ := h
  obtain ⟨t, rfl⟩ := rx
  obtain ⟨t', rfl⟩ := ry
  have e63 : (2 : Int) ^ 63 = 9223372036854775808 := by decide
  refine SB.mul ⟨?_, fun _ _ => ?_, fun _ _ => ?_⟩ fun t' k => ⟨.str (Txt.mul z n), H, I.tok k, ⟨_, rfl⟩, q⟩
  · rw [decide_eq_false (by rw [e63]; omega), decide_eq_false (by rw [e63]; omega)]; rfl
  · rw [e63]
    have : (9223372036854775808 - 1) / 1000 ≤ (9223372036854775808 - 1 : Int) / n := by
      refine Int.le_ediv_of_mul_le (by omega) ?_
      have : ((9223372036854775808 - 1 : Int) / 1000) * n ≤ ((9223372036854775808 - 1 : Int) / 1000) * 1000 := Int.mul_le_mul_of_nonneg_left h1000 (by decide)
      exact Int.le_trans this (by decide)
    have e : ((9223372036854775808 - 1 : Int) / 1000) = 9223372036854775 := by decide
    rw [e] at this
    omega
  · have hb : z.length * n.toNat ≤ 1000 * 1000 := Nat.mul_le_mul hz (by omega)
    have : ¬ (z.length * n.toNat > sizeLine) := by rw [sizeLine_eq]; omega
    exact decide_eq_false this
theorem o_mulT [Tbs] : Op2 X (binaryOp .Mult) gMulT :=
  ⟨_, op_mul_str, fun D0 S σ o H x y dx dy cx cy K Q E Vx Vy hg k => by
    unfold gMulT at hg
    split at hg
    · cases Vx.1
      cases Vy.1
      exact ⟨_, _, rfl, rfl, hg.1, hg.2.1, hg.2.2.1, hg.2.2.2.1, k _ _ _ H hg.2.2.2.2 (Lh.refl H) (Val.of (.str _))⟩
    · exact hg.elim⟩

/-! ### a, b, .. = a list -/
def wGL (n : Nat) (ws : WTgs) : WTg := fun d c S K => match d with
  | .list ds => ds.length = n ∧ ws ds (c ∨ flats ds = true) S K
  | _ => False
theorem sg_l [Tbs] {es : List Expr} {n kk : Nat} {L : List Nat} {ws : WTgs} (hc : X.calm = true) (h : SGs X es L ws)
    (hn : (assignEach es X.env).length = n := by rfl) (hst : (assignEach es X.env).findIdx? (·.1) = none := by rfl) : SG X (.Tuple es kk pos) L (wGL n ws) := by
  obtain ⟨g, pg, sg⟩ := h.ex
  refine ⟨_, pg_lst hc pg hn hst, ?_⟩
  intro D0 S σ H o v d c K Q E V hw k
  unfold wGL at hw
  split at hw
  · obtain ⟨a, vs, rfl, e, r, rc⟩ := V.items E
    exact ⟨a, vs, rfl, SqL.at e, by rw [r.length]; exact hw.1, sg D0 S σ H o vs _ _ K Q E ⟨r, rc⟩ hw.2 k⟩
  · exact hw.elim

/-! ### try: .. except x as n: suite -/
/-- an exception's fields are nobody's -/
theorem Env.xdv [Tbs] {D0 : Addr → Bool} {S : Slots} {σ : St} {H : Hp} {o : Ow} (E : Env D0 S σ H o) {q : Addr} {fs : List (Str × V)} (h : H q = some (.xd fs)) : vw D0 o (co H) q = some (.xd fs) := by
  have e2 : co H q = some (.xd fs) := co_of h
  refine vw_at ?_ ?_ e2
  · cases z : D0 q with
    | false => rfl
    | true =>
      obtain ⟨u, h1, h2⟩ := E.dead q z
      rw [e2] at h1
      cases h1
      cases h2
  · cases z : o q with
    | none => rfl
    | some p =>
      obtain ⟨_, u, h1, h2⟩ := E.live q p z
      rw [e2] at h1
      cases h1
      cases h2
/-- slot i holds an exception -/
theorem Env.putX [Tbs] {D0 : Addr → Bool} {S : Slots} {σ : St} {H : Hp} {o : Ow} (E : Env D0 S σ H o) (i : Nat) (e : Addr) (d : Option Addr) (fs : List (Str × V)) (h : ∀ q, d = some q → H q = some (.xd fs)) :
    Env D0 (S.set i (.ex e d fs)) (σ.set i (some (.ref e))) H o := by
  refine ⟨by rw [List.length_set, List.length_set]; exact E.len, E.live, E.dead, fun j s hs => ?_, E.nf, E.tb⟩
  by_cases z : i = j
  · subst z
    have hi : i < S.length := by
      have q := (List.getElem?_eq_some_iff.mp hs).1
      rw [List.length_set] at q
      exact q
    rw [List.getElem?_set_self hi] at hs
    cases hs
    exact ⟨by rw [List.getElem?_set_self (by rw [E.len]; exact hi)], fun q hq => E.xdv (h q hq)⟩
  · rw [List.getElem?_set_ne z] at hs ⊢
    exact E.sl j s hs
def wTryAs (M : Str → Option Bool) (i : Nat) (wb : WS) (ws : Addr → Option Addr → XC → WS) : WS := fun S P => wb S { P with ex := fun y S1 => match M y.1 with
  | some true => ∀ (e : Addr) (d : Option Addr), d.isNone = y.2.isEmpty ∨ d.isSome = true → ws e d y (S1.set i (.ex e d y.2)) { nx := fun S2 => P.nx (S2.set i .un), bk := fun S2 => P.bk (S2.set i .un), ct := fun S2 => P.ct (S2.set i .un), rt := P.rt, ex := noX }
  | some false => P.ex y S1
  | none => False }
theorem ss_tryAs [Tbs] {x n : Str} {C : Addr} {M : Str → Option Bool} {body suite : List Stmt} {b₀ : Stmt} {np pos' : Pos} {wb : WS} {ws : Addr → Option Addr → XC → WS} (i : Nat) (a : At X W k) (hm : X.mg x = some (.ref C)) (hM : Catch X.K X.mg C M)
    (hb : ∀ (w' : WX) (pn : List (Addr × Obj)) (xe : Value → Shared → Prop), At (X.tr pn xe) ⟨X.mg, w'⟩ k → SSs (X.tr pn xe) ⟨X.mg, w'⟩ body wb)
    (hsu : ∀ (e : Addr) (oe : Obj) (d : Option Addr) (pn : List (Addr × Obj)) (y : XC) (A : Addr), Zc (.ref A) d oe → (∃ vs, oe.data = .fields vs) → X.mg y.1 = some (.ref A) → M y.1 = some true → SSs (X.suite e ((e, oe) :: pn)) (WN X.mg) (b₀ :: suite) (ws e d y))
    (hi : X.N[i]? = some n := by rfl) (hln : X.env.kindOf n = some .local := by rfl)
    (hs : X.stack = X.env :: X.outer := by rfl) (hf : X.env.frame = some X.env.locals := by rfl) (hg : Gl X x := by rfl) (hdb : (x == ("__debug__" : Str)) = false := by decide) :
    SS X W (.Try body [.ExceptHandler (some (.Name x np)) (some n) (b₀ :: suite) pos'] [] [] pos) (wTryAs M i wb ws) := by
  refine ⟨_, ps_try_as (i := i) (ts := fun e cls d D σ H => ∃ (y : XC) (A : Addr), cls = .ref A ∧ X.mg y.1 = some (.ref A) ∧ M y.1 = some true ∧ tSW (WN X.mg) (ws e d y) D σ H) hs hf a.nd hi hln ⟨hg, hdb, .inl hm⟩ a.tx
    (fun w' pn xe tk po => (hb w' pn xe ⟨a.room, a.calm, tk, rfl, a.nd, po⟩).pss) (fun e oe cls d pn hz hvs => ?_), ?_⟩
  · refine ⟨fun pins s σ H D I h => ?_⟩
    obtain ⟨y, A, rfl, hA, hy, h⟩ := h
    exact (hsu e oe d pn y A hz hvs hA hy).pss.run pins s σ H D I h
  intro D0 S σ H o P D E hw g
  refine tSW_snd D0 S σ H o _ D E hw ⟨g.nx, g.bk, g.ct, g.rt, ?_⟩
  intro y S' σ' cls dd H' o' h E' f ok
  obtain ⟨⟨A, hA, rfl⟩, hx⟩ := ok
  have h' : (match M y.1 with
    | some true => ∀ (e : Addr) (d : Option Addr), d.isNone = y.2.isEmpty ∨ d.isSome = true → ws e d y (S'.set i (.ex e d y.2)) { nx := fun S2 => P.nx (S2.set i .un), bk := fun S2 => P.bk (S2.set i .un), ct := fun S2 => P.ct (S2.set i .un), rt := P.rt, ex := noX }
    | some false => P.ex y S' | none => False) := h
  cases hM' : M y.1 with
  | none =>
    rw [hM'] at h'
    exact h'.elim
  | some b =>
    rw [hM'] at h'
    refine ⟨b, hM.ok _ _ hM' A hA, fun eb e he => ?_, fun eb => ?_⟩
    · subst eb
      have hd : dd.isNone = y.2.isEmpty ∨ dd.isSome = true := by
        rcases hx with ⟨h1, h2⟩ | ⟨q, h1, h2⟩
        · left; rw [h1, h2]; rfl
        · right; rw [h1]; rfl
      have hq : ∀ q, dd = some q → H' q = some (.xd y.2) := fun q e2 => by
        rcases hx with ⟨h1, h2⟩ | ⟨q', h1, h2⟩
        · rw [h2] at e2; cases e2
        · rw [h1] at e2; cases e2; exact h2
      have E2 := E'.putX i e dd y.2 hq
      have g' := g.on f
      refine ⟨y, A, rfl, hA, hM', tSW_snd D0 _ _ H' o' _ _ E2 (h' e dd hd) ⟨fun S2 σ2 H2 o2 h2 E3 f2 => ?_, fun S2 σ2 H2 o2 h2 E3 f2 => ?_, fun S2 σ2 H2 o2 h2 E3 f2 => ?_, g'.rt, fun _ _ _ _ _ _ _ z => z.elim⟩⟩
      · exact g'.nx _ _ H2 o2 h2 (E3.un i) f2
      · exact g'.bk _ _ H2 o2 h2 (E3.un i) f2
      · exact g'.ct _ _ H2 o2 h2 (E3.un i) f2
    · subst eb
      exact g.ex y S' σ' _ dd H' o' h' E' f ⟨⟨A, by rw [a.mq]; exact hA, rfl⟩, hx⟩
/-- n.f in the suite -/
def wXf (e : Addr) (d : Option Addr) (y : XC) (i : Nat) (x f : Str) : WEx := fun S A _ => y.1 = x ∧ d.isSome = true ∧ ∃ fs v dv, S[i]? = some (.ex e d fs) ∧ fs.lookup f = some v ∧ dV v = some dv ∧ A dv True S
theorem se_xf [Tbs] {e C A : Addr} {oe : Obj} {d : Option Addr} {pn : List (Addr × Obj)} {y : XC} {x n f : Str} {p1 : Pos} (i : Nat) (T : XfC X.K C) (hno : PySem.W.findIn X.K (.ref C) f = some none) (hz : Zc (.ref A) d oe) (hf : ∃ vs, oe.data = .fields vs) (hA : X.mg y.1 = some (.ref A)) (hC : X.mg x = some (.ref C))
    (hi : X.N[i]? = some n := by rfl) (hv : Vis X.env.scope n := by first | exact Or.inl rfl | exact Or.inr (Or.inl rfl) | exact Or.inr (Or.inr rfl)) (hd : (n == ("__debug__" : Str)) = false := by decide) (hcd : (n == ("__classdict__" : Str)) = false := by decide)
    (hab : attributeBase (.Name n p1) f X.env (eval (.Name n p1) X.env) = eval (.Name n p1) X.env := by rfl) :
    SE (X.suite e ((e, oe) :: pn)) (WN X.mg) (.Attribute (.Name n p1) f pos) (wXf e d y i x f) := by
  refine ⟨_, pe_xf T hno hz hf (pe_var (X := X.suite e ((e, oe) :: pn)) hi hv hd hcd) hab, ?_⟩
  intro D0 S σ H o A' B Q E hw k kx
  obtain ⟨ey, hds, fs, v, dv, hs, hl, hdv, hw⟩ := hw
  obtain ⟨h1, h2⟩ := E.sl i _ hs
  obtain ⟨q, rfl⟩ := Option.isSome_iff_exists.mp hds
  rw [ey, hC] at hA
  cases hA
  have hq := vw_le _ _ (h2 q rfl)
  have hq' : H q = some (.xd fs) := co_xd hq
  exact ⟨.ref e, h1, rfl, rfl, q, fs, v, rfl, hq', hl, k _ _ _ _ H hw E (XE.refl o H) (Val.of (rp_dV hdv))⟩
/-- isinstance(n, T) in the suite -/
def rIsE2 (K : PySem.W.Frag) (D a : Addr) (d : Option Addr) : List V → Hp → VK → Prop := fun xs H Q => ∃ (c : V) (cv : Value) (b : Bool), xs = [.ref a, c] ∧ (∀ u, RelV c u → u = cv) ∧ (∀ q, d = some q → ∃ fs, H q = some (.xd fs)) ∧ PySem.W.kitOne K (.ref D) cv = some b ∧ Q (.bl b) H
theorem call_isE2 {a D : Addr} {oe : Obj} {d : Option Addr} {pn : List (Addr × Obj)} (C : ExcC X.K D) (hz : Zc (.ref D) d oe) (hf : ∃ vs, oe.data = .fields vs) : CallR (X.suite a ((a, oe) :: pn)) (.builtin "isinstance") (rIsE2 X.K D a d) := by
  intro pins s σ H xs us Q I r h
  obtain ⟨c, cv, b, rfl, hcv, hd, e, q⟩ := h
  cases r with
  | cons rx rr =>
    cases rr with
    | cons rt rr =>
      cases rr
      cases rx
      have ec := hcv _ rt
      subst ec
      obtain ⟨hget, _⟩ := I.pin (a, oe) (List.mem_append.mpr (.inl List.mem_cons_self))
      obtain ⟨vs, hv⟩ := hf
      obtain ⟨cd, hcd, _⟩ := PySem.W.any_some C.hd
      have hcl : (PySem.W.clsIn X.K D).isSome = true := by rw [hcd]; rfl
      cases d with
      | none =>
        have J : PySem.W.InstAt s.heap a oe D none := ⟨hget, hz.1, by unfold PySem.W.notCls; rw [hv], by rw [hz.2]; trivial⟩
        exact PySem.W.kia_one (PySem.W.kitx_exc hcl C.hg C.hk C.hs C.ha C.hn C.ht C.hm) I.kIn J e (fun z => nomatch z) fun tk => ⟨.bl b, H, I.kept (t' := tk) fun _ _ z => z, rfl, q⟩
      | some q' =>
        obtain ⟨fs, hq⟩ := hd q' rfl
        obtain ⟨mA, hns, hr⟩ : ObjOk X.prog X.w H s.heap q' (.xd fs) := I.hok q' _ hq
        obtain ⟨od, ho, hl⟩ := lookIn_ns hns
        have J : PySem.W.InstAt s.heap a oe D (some od) := ⟨hget, hz.1, by unfold PySem.W.notCls; rw [hv], by rw [hz.2]; exact ho⟩
        exact PySem.W.kia_one (PySem.W.kitx_exc hcl C.hg C.hk C.hs C.ha C.hn C.ht C.hm) I.kIn J e (fun z => nomatch z) fun tk => ⟨.bl b, H, I.kept (t' := tk) fun _ _ z => z, rfl, q⟩
/-! for suites: what wants no calm -/
theorem ss_setN [Tbs] (i : Nat) {x : Str} {e : Expr} {p : Pos} {we : WEx} (nd : X.N.Nodup) (he : SE X W e we) (hi : X.N[i]? = some x := by rfl) (hx : Loc X.env.scope x := by first | exact Or.inl rfl | exact Or.inr rfl) (hs : swapsWith e (some (.Name x p)) pos.line X.env = pure false := by rfl) (hf : X.fn x = true ∨ X.env.scope.names.lookup x = some .local := by first | exact .inl rfl | exact .inr rfl) :
    SS X W (.Assign [.Name x p] e pos) (wSet i we) := by
  obtain ⟨te, pe, se⟩ := he.ex
  refine ⟨_, ps_set nd hi hx pe hs hf, ?_⟩
  intro D0 S σ H o P D E hw g
  refine se D0 S σ H o _ P.ex _ E hw (fun d c S1 v H1 h1 E1 x1 V1 => ?_) g.xw
  exact g.nx _ _ _ _ h1.2 (E1.put i ((V1.flat E1).2 h1.1)) x1.fr
theorem o_eqU [Tbs] (hu : X.A.units + 64 < cLine) : Op2 X (compareOp .Eq) gEq :=
  ⟨_, op_eqD hu, fun D0 S σ o H x y dx dy cx cy K Q E Vx Vy hg k => ⟨dx, dy, Vx.dp hg.1, Vy.dp hg.2.1, hg.1, hg.2.1, k _ _ _ H hg.2.2 (Lh.refl H) (Val.of (.bl _))⟩⟩
theorem o_neU [Tbs] (hu : X.A.units + 64 < cLine) : Op2 X (compareOp .NotEq) gNe :=
  ⟨_, op_neD hu, fun D0 S σ o H x y dx dy cx cy K Q E Vx Vy hg k => ⟨dx, dy, Vx.dp hg.1, Vy.dp hg.2.1, hg.1, hg.2.1, k _ _ _ H hg.2.2 (Lh.refl H) (Val.of (.bl _))⟩⟩
/-- isinstance(n, T), T a class of the text -/
structure IsX (K : PySem.W.Frag) (mg : Str → Option Value) (T : Str) (M : Str → Option Bool) : Prop where
  ex : ∃ C, mg T = some (.ref C) ∧ ∀ x b D, M x = some b → mg x = some (.ref D) → PySem.W.kitOne K (.ref D) (.ref C) = some b ∧ ExcC K D
def wXis (e : Addr) (d : Option Addr) (y : XC) (i : Nat) (M : Str → Option Bool) : WEx := fun S A _ => ∃ fs b, S[i]? = some (.ex e d fs) ∧ M y.1 = some b ∧ A (.bool b) True S
theorem se_xis [Tbs] {e A : Addr} {oe : Obj} {d : Option Addr} {pn : List (Addr × Obj)} {y : XC} {T n : Str} {M : Str → Option Bool} {p p1 p2 : Pos} (i : Nat) (hT : IsX X.K X.mg T M) (hm : X.mg "isinstance" = none) (hz : Zc (.ref A) d oe) (hf : ∃ vs, oe.data = .fields vs) (hA : X.mg y.1 = some (.ref A))
    (hi : X.N[i]? = some n := by rfl) (hv : Vis X.env.scope n := by first | exact Or.inl rfl | exact Or.inr (Or.inl rfl) | exact Or.inr (Or.inr rfl)) (hd : (n == ("__debug__" : Str)) = false := by decide) (hcd : (n == ("__classdict__" : Str)) = false := by decide)
    (hg : Gl X "isinstance" := by rfl) (hgT : Gl X T := by rfl) (hdT : (T == ("__debug__" : Str)) = false := by decide)
    (hst : starEach [.Name n p1, .Name T p2] X.env = (false, eval (.Name n p1) X.env) :: starEach [.Name T p2] X.env := by rfl) (hst2 : starEach [.Name T p2] X.env = (false, eval (.Name T p2) X.env) :: starEach [] X.env := by rfl) (hpl : (backTo pos (starEach [.Name T p2] X.env)).any (·.1) = false := by rfl) :
    SE (X.suite e ((e, oe) :: pn)) (WN X.mg) (.Call (.Name "isinstance" p) [.Name n p1, .Name T p2] [] pos) (wXis e d y i M) := by
  obtain ⟨C, hC, hM⟩ := hT.ex
  by_cases hD : ∃ b, M y.1 = some b
  · obtain ⟨b, hb⟩ := hD
    obtain ⟨h1, h2⟩ := hM _ _ _ hb hA
    refine ⟨_, pe_callB (X := X.suite e ((e, oe) :: pn)) (call_isE2 h2 hz hf) hg hm (by decide +kernel) (pa_cons (X := X.suite e ((e, oe) :: pn)) (pe_var (X := X.suite e ((e, oe) :: pn)) hi hv hd hcd) (pa_cons (X := X.suite e ((e, oe) :: pn)) (pe_glob (X := X.suite e ((e, oe) :: pn)) (v := .ref C) hgT hC rfl hdT) pa_nil hst2) hst) (by decide) (by decide) hst hpl, ?_⟩
    intro D0 S σ H o A' B Q E hw k kx
    obtain ⟨fs, b', hs, hb', hw⟩ := hw
    rw [hb] at hb'
    cases hb'
    obtain ⟨g1, g2⟩ := E.sl i _ hs
    refine ⟨.ref e, g1, .ref C, .ref C, b, rfl, fun u hu => hu, fun q hq => ?_, h1, k _ _ _ _ H hw E (XE.refl o H) (Val.of (.bl _))⟩
    have hq' := vw_le _ _ (g2 q hq)
    exact ⟨_, co_xd hq'⟩
  · refine ⟨fun _ _ _ => False, ⟨fun pins s σ H Q I h => h.elim⟩, ?_⟩
    intro D0 S σ H o A' B Q E hw k kx
    obtain ⟨fs, b', hs, hb', hw⟩ := hw
    exact hD ⟨b', hb'⟩
/-! xs + ys, a new list -/
def wCat (wa wb : WEx) : WLs := fun S A B => wa S (fun x cx S1 => wb S1 (fun y cy S2 => match x, y with
  | .list xs, .list ys => xs.length + ys.length ≤ sizeLine ∧ A (xs ++ ys) ((cx ∨ flats xs = true) ∧ (cy ∨ flats ys = true)) S2
  | _, _ => False) B) B
theorem so_cat [Tbs] {a b : Expr} {wa wb : WEx} (ha : SE X W a wa) (hb : SE X W b wb) : SO X W (.BinOp a .Add b pos) (wCat wa wb) := by
  obtain ⟨ta, pa, sa⟩ := ha.ex
  obtain ⟨tb, pb, sb⟩ := hb.ex
  refine ⟨_, pe_op op_cat pa pb, ?_⟩
  intro D0 S σ H o A B Q E hw k kx
  refine sa D0 S σ H o _ B _ E hw (fun d c S1 v H1 h1 E1 x1 V1 => ?_) kx
  refine sb D0 S1 σ H1 o _ B _ E1 h1 (fun d2 c2 S2 v2 H2 h2 E2 x2 V2 => ?_) (kx.on x1)
  split at h2
  · have V1' := V1.mono x2
    obtain ⟨a, vs, rfl, ea, ra, ca⟩ := V1'.items E2
    obtain ⟨b, ws, rfl, eb, rb, cb⟩ := V2.items E2
    exact ⟨a, b, vs, ws, rfl, rfl, ea, eb, by rw [ra.length, rb.length]; exact h2.1, fun p hp => k _ _ S2 _ p H2 h2.2 E2 (x1.trans x2) hp ⟨ra.append rb, fun z => (ca z.1).append (cb z.2)⟩⟩
  · exact h2.elim
/-! the frame's own list: its items are nobody's to change -/
def wCatV (i : Nat) (wb : WEx) : WLs := fun S A B => (∃ xs, S[i]? = some (.ol xs)) ∧ wb S (fun y cy S2 => match y, S2[i]? with
  | .list ys, some (.ol xs) => xs.length + ys.length ≤ sizeLine ∧ A (xs ++ ys) (cy ∨ flats ys = true) S2
  | _, _ => False) B
theorem so_catV [Tbs] (i : Nat) {x : Str} {p : Pos} {b : Expr} {wb : WEx} (hb : SE X W b wb) (hN : X.N[i]? = some x := by rfl) (hv : Vis X.env.scope x := by first | exact Or.inl rfl | exact Or.inr (Or.inl rfl) | exact Or.inr (Or.inr rfl))
    (hd : (x == ("__debug__" : Str)) = false := by decide) (hcd : (x == ("__classdict__" : Str)) = false := by decide) : SO X W (.BinOp (.Name x p) .Add b pos) (wCatV i wb) := by
  obtain ⟨tb, pb, sb⟩ := hb.ex
  refine ⟨_, pe_op op_cat (pe_var hN hv hd hcd) pb, ?_⟩
  intro D0 S σ H o A B Q E hw k kx
  obtain ⟨⟨xs0, hs0⟩, hw⟩ := hw
  obtain ⟨a, vs0, k1, k2, k3, k4⟩ := E.sl i _ hs0
  refine ⟨.ref a, k1, sb D0 S σ H o _ B _ E hw (fun d2 c2 S2 v2 H2 h2 E2 x2 V2 => ?_) kx⟩
  split at h2
  · rename_i ys xs hs2
    obtain ⟨a', vs, m1, m2, m3, m4⟩ := E2.sl i _ hs2
    rw [k1] at m1
    cases m1
    obtain ⟨b, ws, rfl, eb, rb, cb⟩ := V2.items E2
    exact ⟨a, b, vs, ws, rfl, rfl, co_lst m3, eb, by rw [m4.length, rb.length]; exact h2.1, fun p hp => k _ _ S2 _ p H2 h2.2 E2 x2 hp ⟨(m4.mono vw_le_vt).append rb, fun z => m4.append (cb z)⟩⟩
  · exact h2.elim
def wIxV (i : Nat) (wb : WEx) : WEx := fun S A B => (∃ xs, S[i]? = some (.ol xs)) ∧ wb S (fun y _ S2 => match y, S2[i]? with
  | .int j, some (.ol xs) => ∃ d, atD xs j = some d ∧ A d True S2
  | _, _ => False) B
theorem se_ixV [Tbs] (i : Nat) {x : Str} {p : Pos} {b : Expr} {wb : WEx} (hb : SE X W b wb) (hs : PlainIx b := by exact fun _ _ => rfl) (hN : X.N[i]? = some x := by rfl) (hv : Vis X.env.scope x := by first | exact Or.inl rfl | exact Or.inr (Or.inl rfl) | exact Or.inr (Or.inr rfl))
    (hd : (x == ("__debug__" : Str)) = false := by decide) (hcd : (x == ("__classdict__" : Str)) = false := by decide) : SE X W (.Subscript (.Name x p) b pos) (wIxV i wb) := by
  obtain ⟨tb, pb, sb⟩ := hb.ex
  refine ⟨_, pe_ix ix_seq (pe_var hN hv hd hcd) pb hs, ?_⟩
  intro D0 S σ H o A B Q E hw k kx
  obtain ⟨⟨xs0, hs0⟩, hw⟩ := hw
  obtain ⟨a, vs0, k1, k2, k3, k4⟩ := E.sl i _ hs0
  refine ⟨.ref a, k1, sb D0 S σ H o _ B _ E hw (fun y cy S2 u H2 h2 E2 x2 V2 => ?_) kx⟩
  split at h2
  · rename_i j xs hs2
    obtain ⟨d, hd', h2⟩ := h2
    obtain ⟨a', vs, m1, m2, m3, m4⟩ := E2.sl i _ hs2
    rw [k1] at m1
    cases m1
    cases V2.1
    obtain ⟨w', e1, r1⟩ := rp_at m4 hd'
    exact .inl ⟨a, vs, _, w', rfl, rfl, SqL.at (co_lst m3), e1, k _ _ S2 _ H2 h2 E2 x2 (Val.of r1)⟩
  · exact h2.elim
end
end Pu

namespace Pu
open PySem L2

/-! ### keys and entries -/
def eqA : PyData → PyData → Bool
  | .int i, .int j => decide (i = j)
  | .str s, .str t => decide (s = t)
  | _, _ => false
def eqAs : List PyData → List PyData → Bool
  | [], [] => true
  | x :: xs, y :: ys => eqA x y && eqAs xs ys
  | _, _ => false
def eqK : PyData → PyData → Bool
  | .tuple xs, .tuple ys => eqAs xs ys
  | x, y => eqA x y
def isA : PyData → Bool
  | .int _ => true
  | .str _ => true
  | _ => false
def isKT : PyData → Bool
  | .tuple xs => xs.all isA
  | _ => false
abbrev Es := List (PyData × PyData)
def lookE (es : Es) (k : PyData) : Option PyData := (es.find? fun e => eqK e.1 k).map (·.2)
def putE (es : Es) (k v : PyData) : Es := if (es.any fun e => eqK e.1 k) = true then es.map (fun e => if eqK e.1 k = true then (e.1, v) else e) else es ++ [(k, v)]
/-- the entries less the mark -/
def dE : Es → Es
  | (.none, .none) :: r => r
  | es => es
def isMk : Es → Bool
  | (.none, .none) :: _ => true
  | _ => false
def okK (es : Es) (k : PyData) : Bool := if isMk es = true then isA k else isKT k
def putD (es : Es) (k v : PyData) : Es := if isMk es = true then (.none, .none) :: putE (dE es) k v else putE es k v
theorem eqA_key (a b : Key) : eqA (keyD a) (keyD b) = decide (a = b) := by
  cases a <;> cases b <;> simp [keyD, eqA]
theorem eqK_key (a b : Key) : eqK (keyD a) (keyD b) = decide (a = b) := by
  rw [← eqA_key]
  cases a <;> cases b <;> rfl
theorem eqAs_keys : ∀ a b : List Key, eqAs (a.map keyD) (b.map keyD) = decide (a = b)
  | [], [] => rfl
  | [], _ :: _ => by simp [eqAs]
  | _ :: _, [] => by simp [eqAs]
  | x :: xs, y :: ys => by
    rw [List.map_cons, List.map_cons]
    simp only [eqAs, eqA_key, eqAs_keys xs ys, List.cons.injEq, Bool.decide_and]
theorem eqK_keys (a b : List Key) : eqK (.tuple (a.map keyD)) (.tuple (b.map keyD)) = decide (a = b) := eqAs_keys a b
theorem isA_key {G : Hp} {y : V} {k : PyData} (h : isA k = true) (r : Rp G y k) : ∃ q : Key, k = keyD q ∧ y = kV q := by
  cases k <;> simp [isA] at h
  · cases r; exact ⟨.inl _, rfl, rfl⟩
  · cases r; exact ⟨.inr _, rfl, rfl⟩
theorem isAs_keys {G : Hp} : ∀ {xs : List PyData} {vs : List V}, xs.all isA = true → RpAll G vs xs → ∃ ks : List Key, xs = ks.map keyD ∧ vs = ks.map kV
  | [], _, _, .nil => ⟨[], rfl, rfl⟩
  | x :: xs, _, h, .cons a b => by
    rw [List.all_cons, Bool.and_eq_true] at h
    obtain ⟨q, rfl, rfl⟩ := isA_key h.1 a
    obtain ⟨ks, rfl, rfl⟩ := isAs_keys h.2 b
    exact ⟨q :: ks, rfl, rfl⟩
theorem isKT_keys {G : Hp} {y : V} {k : PyData} (h : isKT k = true) (r : Rp G y k) : ∃ (ks : List Key) (b : Addr), k = .tuple (ks.map keyD) ∧ y = .ref b ∧ G b = some (.tup (ks.map kV)) := by
  cases k <;> simp only [isKT, Bool.false_eq_true] at h
  cases r with
  | tup e r =>
    obtain ⟨ks, rfl, rfl⟩ := isAs_keys h r
    exact ⟨ks, _, rfl, rfl, e⟩
theorem rp_keys {G : Hp} : ∀ ks : List Key, RpAll G (ks.map kV) (ks.map keyD)
  | [] => .nil
  | .inl i :: r => .cons (.int i) (rp_keys r)
  | .inr s :: r => .cons (.str s) (rp_keys r)
theorem rp_key {G : Hp} (k : Key) : Rp G (kV k) (keyD k) := by
  cases k with
  | inl i => exact .int i
  | inr s => exact .str s
theorem flat_key (k : Key) : flat (keyD k) = true := by cases k <;> rfl
theorem flats_keys : ∀ ks : List Key, flats (ks.map keyD) = true
  | [] => rfl
  | k :: r => by rw [List.map_cons, flats, flat_key, flats_keys r]; rfl
theorem RpK.length {G : Hp} : ∀ {kvs : List (Key × V)} {es : Es}, RpK G kvs es → kvs.length = es.length
  | _, _, .nil => rfl
  | _, _, .cons _ b => by rw [List.length_cons, List.length_cons, b.length]
theorem RpT.length {G : Hp} : ∀ {kvs : List (List Key × V)} {es : Es}, RpT G kvs es → kvs.length = es.length
  | _, _, .nil => rfl
  | _, _, .cons _ b => by rw [List.length_cons, List.length_cons, b.length]
theorem RpK.fst {G : Hp} : ∀ {kvs : List (Key × V)} {es : Es}, RpK G kvs es → es.map (·.1) = kvs.map fun p => keyD p.1
  | _, _, .nil => rfl
  | _, _, .cons _ b => by rw [List.map_cons, List.map_cons, b.fst]
theorem RpT.fst {G : Hp} : ∀ {kvs : List (List Key × V)} {es : Es}, RpT G kvs es → es.map (·.1) = kvs.map fun p => PyData.tuple (p.1.map keyD)
  | _, _, .nil => rfl
  | _, _, .cons _ b => by rw [List.map_cons, List.map_cons, b.fst]
theorem RpT.dE {G : Hp} {kvs : List (List Key × V)} {es : Es} (h : RpT G kvs es) : dE es = es ∧ isMk es = false := by
  cases h <;> exact ⟨rfl, rfl⟩
theorem RpK.look {G : Hp} : ∀ {kvs : List (Key × V)} {es : Es}, RpK G kvs es → ∀ k : Key, (valV kvs k).isSome = (lookE es (keyD k)).isSome ∧ ∀ v, valV kvs k = some v → ∃ d, lookE es (keyD k) = some d ∧ Rp G v d
  | _, _, .nil, k => ⟨rfl, fun v h => by cases h⟩
  | _, _, .cons (k := k0) (v := v0) (d := d0) (kvs := kvs) (es := es) a b, k => by
    have q := b.look k
    by_cases e : k0 = k
    · have e1 : valV ((k0, v0) :: kvs) k = some v0 := valV_pos (p := (k0, v0)) e
      have e2 : lookE ((keyD k0, d0) :: es) (keyD k) = some d0 := by unfold lookE; rw [List.find?_cons, eqK_key, decide_eq_true e]; rfl
      rw [e1, e2]
      exact ⟨rfl, fun v h => by cases h; exact ⟨_, rfl, a⟩⟩
    · have e1 : valV ((k0, v0) :: kvs) k = valV kvs k := valV_neg (p := (k0, v0)) e
      have e2 : lookE ((keyD k0, d0) :: es) (keyD k) = lookE es (keyD k) := by unfold lookE; rw [List.find?_cons, eqK_key, decide_eq_false e]
      rw [e1, e2]
      exact q
theorem RpT.look {G : Hp} : ∀ {kvs : List (List Key × V)} {es : Es}, RpT G kvs es → ∀ k : List Key, (valV kvs k).isSome = (lookE es (.tuple (k.map keyD))).isSome ∧ ∀ v, valV kvs k = some v → ∃ d, lookE es (.tuple (k.map keyD)) = some d ∧ Rp G v d
  | _, _, .nil, k => ⟨rfl, fun v h => by cases h⟩
  | _, _, .cons (k := k0) (v := v0) (d := d0) (kvs := kvs) (es := es) a b, k => by
    have q := b.look k
    by_cases e : k0 = k
    · have e1 : valV ((k0, v0) :: kvs) k = some v0 := valV_pos (p := (k0, v0)) e
      have e2 : lookE ((.tuple (k0.map keyD), d0) :: es) (.tuple (k.map keyD)) = some d0 := by unfold lookE; rw [List.find?_cons, eqK_keys, decide_eq_true e]; rfl
      rw [e1, e2]
      exact ⟨rfl, fun v h => by cases h; exact ⟨_, rfl, a⟩⟩
    · have e1 : valV ((k0, v0) :: kvs) k = valV kvs k := valV_neg (p := (k0, v0)) e
      have e2 : lookE ((.tuple (k0.map keyD), d0) :: es) (.tuple (k.map keyD)) = lookE es (.tuple (k.map keyD)) := by unfold lookE; rw [List.find?_cons, eqK_keys, decide_eq_false e]
      rw [e1, e2]
      exact q
theorem RpK.any {G : Hp} (k : Key) : ∀ {kvs : List (Key × V)} {es : Es}, RpK G kvs es → (es.any fun e => eqK e.1 (keyD k)) = kvs.any fun p => decide (p.1 = k)
  | _, _, .nil => rfl
  | _, _, .cons a b => by rw [List.any_cons, List.any_cons, b.any k, eqK_key]
theorem RpT.any {G : Hp} (k : List Key) : ∀ {kvs : List (List Key × V)} {es : Es}, RpT G kvs es → (es.any fun e => eqK e.1 (.tuple (k.map keyD))) = kvs.any fun p => decide (p.1 = k)
  | _, _, .nil => rfl
  | _, _, .cons a b => by rw [List.any_cons, List.any_cons, b.any k, eqK_keys]
theorem RpK.repl {G : Hp} {v : V} {d : PyData} (r : Rp G v d) (k : Key) : ∀ {kvs : List (Key × V)} {es : Es}, RpK G kvs es → RpK G (kvs.map fun kv => if kv.1 = k then (kv.1, v) else kv) (es.map fun e => if eqK e.1 (keyD k) = true then (e.1, d) else e)
  | _, _, .nil => .nil
  | _, _, .cons (k := k0) a b => by
    rw [List.map_cons, List.map_cons, eqK_key]
    by_cases e : k0 = k
    · rw [if_pos e, if_pos (decide_eq_true e)]; exact .cons r (b.repl r k)
    · rw [if_neg e, if_neg (by rw [decide_eq_false e]; exact Bool.false_ne_true)]; exact .cons a (b.repl r k)
theorem RpT.repl {G : Hp} {v : V} {d : PyData} (r : Rp G v d) (k : List Key) : ∀ {kvs : List (List Key × V)} {es : Es}, RpT G kvs es → RpT G (kvs.map fun kv => if kv.1 = k then (kv.1, v) else kv) (es.map fun e => if eqK e.1 (.tuple (k.map keyD)) = true then (e.1, d) else e)
  | _, _, .nil => .nil
  | _, _, .cons (k := k0) a b => by
    rw [List.map_cons, List.map_cons, eqK_keys]
    by_cases e : k0 = k
    · rw [if_pos e, if_pos (decide_eq_true e)]; exact .cons r (b.repl r k)
    · rw [if_neg e, if_neg (by rw [decide_eq_false e]; exact Bool.false_ne_true)]; exact .cons a (b.repl r k)
theorem RpK.snoc {G : Hp} {k : Key} {v : V} {d : PyData} (r : Rp G v d) : ∀ {kvs : List (Key × V)} {es : Es}, RpK G kvs es → RpK G (kvs ++ [(k, v)]) (es ++ [(keyD k, d)])
  | _, _, .nil => .cons r .nil
  | _, _, .cons a b => .cons a (b.snoc r)
theorem RpT.snoc {G : Hp} {k : List Key} {v : V} {d : PyData} (r : Rp G v d) : ∀ {kvs : List (List Key × V)} {es : Es}, RpT G kvs es → RpT G (kvs ++ [(k, v)]) (es ++ [(.tuple (k.map keyD), d)])
  | _, _, .nil => .cons r .nil
  | _, _, .cons a b => .cons a (b.snoc r)
theorem RpK.put {G : Hp} {k : Key} {v : V} {d : PyData} {kvs : List (Key × V)} {es : Es} (h : RpK G kvs es) (r : Rp G v d) : RpK G (putK kvs k v) (putE es (keyD k) d) := by
  unfold putK putE
  rw [h.any k]
  split
  · exact h.repl r k
  · exact h.snoc r
theorem RpT.put {G : Hp} {k : List Key} {v : V} {d : PyData} {kvs : List (List Key × V)} {es : Es} (h : RpT G kvs es) (r : Rp G v d) : RpT G (putK kvs k v) (putE es (.tuple (k.map keyD)) d) := by
  unfold putK putE
  rw [h.any k]
  split
  · exact h.repl r k
  · exact h.snoc r

/-! ### a dict seen in a heap -/
theorem DOk.dct {G : Hp} {u : HO} {es : Es} (h : DOk G u es) : isDct u = true ∧ core u = u ∧ isTup u = false ∧ isFrz u = false ∧ Mut (some u) := by
  rcases h with ⟨kvs, es', rfl, rfl, r⟩ | ⟨kvs, rfl, r⟩ <;> exact ⟨rfl, rfl, rfl, rfl, True.intro⟩
theorem co_dct {H : Hp} {a : Addr} {u : HO} (h : co H a = some u) (hd : isDct u = true) : H a = some u ∨ ∃ od, H a = some (.frz od u) := by
  cases u <;> simp [isDct] at hd
  · exact co_dK h
  · exact co_dT h
theorem core_dct {u : HO} {od : Obj} (hd : isDct u = true) : core (.frz od u) = u := by simp [core, hd]
theorem dct_nt {u : HO} (h : isDct u = true) : isTbl u = false := by cases u <;> first | rfl | cases h
theorem dct_nx {u : HO} (h : isDct u = true) : isX u = false := by cases u <;> first | rfl | cases h
theorem co_lock {H : Hp} {a : Addr} {u : HO} {od : Obj} (h : H a = some u) (hd : isDct u = true) (hc : core u = u) : co (upd H a (.frz od u)) = co H := by
  funext b
  by_cases e : b = a
  · rw [e, co_of h (dct_nt hd), hc]
    have := co_of (H := upd H a (.frz od u)) (a := a) upd_same rfl
    rw [core_dct hd] at this
    exact this
  · exact co_ne e
theorem co_unlock {H : Hp} {a : Addr} {u : HO} {od : Obj} (h : H a = some (.frz od u)) (hd : isDct u = true) (hc : core u = u) : co (upd H a u) = co H := by
  funext b
  by_cases e : b = a
  · have h1 := co_of h rfl
    rw [core_dct hd] at h1
    have h2 := co_of (H := upd H a u) (a := a) upd_same (dct_nt hd)
    rw [hc] at h2
    rw [e, h1, h2]
  · exact co_ne e
theorem Env.reco [Tbs] {D0 : Addr → Bool} {S : Slots} {σ : St} {H H' : Hp} {o : Ow} (E : Env D0 S σ H o) (hc : co H' = co H) (hn : ∀ a p, o a = some p → H' a = H a) (tb : TbOk H') : Env D0 S σ H' o :=
  ⟨E.len, by rw [hc]; exact E.live, by rw [hc]; exact E.dead, by rw [hc]; exact E.sl, fun a p u e h => E.nf a p u e (by rw [← hn a p e]; exact h), tb⟩
theorem Val.reco {D0 : Addr → Bool} {H H' : Hp} {o : Ow} {v : V} {d : PyData} {c : Prop} (h : Val D0 o H v d c) (hc : co H' = co H) : Val D0 o H' v d c := by
  unfold Val at h ⊢
  rw [hc]
  exact h
theorem Val.dok {D0 : Addr → Bool} {o : Ow} {H : Hp} {x : V} {es : Es} {c : Prop} (h : Val D0 o H x (.dict es) c) : ∃ a u, x = .ref a ∧ co H a = some u ∧ isDct u = true ∧ DOk (vt D0 o (co H)) u es ∧ (c → DOk (vw D0 o (co H)) u es) := by
  obtain ⟨a, u, rfl, h1, h2⟩ := h.1.dok
  refine ⟨a, u, rfl, vt_le _ _ h1, h2.dct.1, h2, fun hc => ?_⟩
  obtain ⟨a', u', e, h3, h4⟩ := (h.2 hc).dok
  cases e
  have e1 := vt_le _ _ h1
  have e2 := vw_le _ _ h3
  rw [e1] at e2
  cases e2
  exact h4
theorem dget_of {D0 : Addr → Bool} {o : Ow} {H : Hp} {y : V} {k : PyData} {u : HO} {a : Addr} {es : Es} {G : Hp} (hr : co H a = some u) (h : DOk G u es) (hy : Rp (vt D0 o (co H)) y k) (hk : okK es k = true) :
    ∃ ov, DGet H a y ov ∧ ov.isSome = (lookE (dE es) k).isSome ∧ ∀ (G' : Hp), DOk G' u es → ∀ v, ov = some v → ∃ d, lookE (dE es) k = some d ∧ Rp G' v d := by
  rcases h with ⟨kvs, es', rfl, rfl, r⟩ | ⟨kvs, rfl, r⟩
  · have hk' : isA k = true := hk
    obtain ⟨q, rfl, rfl⟩ := isA_key hk' hy
    refine ⟨_, .inl ⟨kvs, q, co_dK hr, rfl, rfl⟩, (r.look q).1, fun G' h' v hv => ?_⟩
    rcases h' with ⟨kvs', es2, e, e2, r'⟩ | ⟨kvs', e2, r'⟩
    · cases e; cases e2
      exact (r'.look q).2 v hv
    · cases e2
  · have hm := r.dE
    have hk' : isKT k = true := by unfold okK at hk; rw [hm.2] at hk; exact hk
    obtain ⟨q, b, rfl, rfl, hb⟩ := isKT_keys hk' hy
    rw [hm.1]
    refine ⟨_, .inr ⟨kvs, q, b, co_dT hr, rfl, co_tup (vt_le _ _ hb), rfl⟩, (r.look q).1, fun G' h' v hv => ?_⟩
    rcases h' with ⟨kvs', es2, e, e2, r'⟩ | ⟨kvs', e2, r'⟩
    · cases e2
    · cases e2
      exact (r'.look q).2 v hv
theorem dput_of {D0 : Addr → Bool} {o : Ow} {H : Hp} {y v : V} {k d : PyData} {u : HO} {a : Addr} {es : Es} {G : Hp} (hr : H a = some u) (h : DOk G u es) (hy : Rp (vt D0 o (co H)) y k) (hk : okK es k = true) (hl : es.length < sizeLine) (rv : Rp G v d) :
    ∃ u', DPut H a y v (upd H a u') ∧ DOk G u' (putD es k d) := by
  rcases h with ⟨kvs, es', rfl, rfl, r⟩ | ⟨kvs, rfl, r⟩
  · have hk' : isA k = true := hk
    obtain ⟨q, rfl, rfl⟩ := isA_key hk' hy
    have hl' : kvs.length < sizeLine := by rw [r.length]; rw [List.length_cons] at hl; omega
    exact ⟨_, DPut.k hr hl', .inl ⟨_, _, rfl, rfl, r.put rv⟩⟩
  · have hm := r.dE
    have hk' : isKT k = true := by unfold okK at hk; rw [hm.2] at hk; exact hk
    obtain ⟨q, b, rfl, rfl, hb⟩ := isKT_keys hk' hy
    refine ⟨_, DPut.t hr (co_tup (vt_le _ _ hb)) (by rw [r.length]; exact hl), .inr ⟨_, rfl, ?_⟩⟩
    unfold putD
    rw [hm.2]
    exact r.put rv

section
variable {X : Cx} {W : WM} {k : Nat} {pos : Pos}
/-! ### d[k]; k in d; d.get(k, x) -/
def wDGet (wd we : WEx) : WEx := fun S A B => wd S (fun d c S1 => match d with
  | .dict es => we S1 (fun k _ S2 => okK es k = true ∧ ∃ v, lookE (dE es) k = some v ∧ A v c S2) B
  | _ => False) B
theorem Val.got {D0 : Addr → Bool} {o : Ow} {H : Hp} {u : HO} {es : Es} {c : Prop} {k : PyData} {ov : Option V} {v : V} {d : PyData} (h1 : DOk (vt D0 o (co H)) u es) (h2 : c → DOk (vw D0 o (co H)) u es)
    (g : ∀ (G' : Hp), DOk G' u es → ∀ v, ov = some v → ∃ d, lookE (dE es) k = some d ∧ Rp G' v d) (hv : ov = some v) (hd : lookE (dE es) k = some d) : Val D0 o H v d c := by
  refine ⟨?_, fun hc => ?_⟩
  · obtain ⟨d', e, r⟩ := g _ h1 v hv
    rw [hd] at e; cases e; exact r
  · obtain ⟨d', e, r⟩ := g _ (h2 hc) v hv
    rw [hd] at e; cases e; exact r
theorem se_dget [Tbs] {o i : Expr} {wd we : WEx} (a : At X W k) (ho : SE X W o wd) (hi : SE X W i we) (hs : NoSl i := by exact fun _ _ => rfl) : SE X W (.Subscript o i pos) (wDGet wd we) := by
  obtain ⟨td, pd, sd⟩ := ho.ex
  obtain ⟨ti, pi, si⟩ := hi.ex
  refine ⟨_, pe_dget a.u1 pd pi hs, ?_⟩
  intro D0 S σ H o A B Q E hw kk kx
  refine sd D0 S σ H o _ B _ E hw (fun d c S1 x H1 h1 E1 x1 V1 => ?_) kx
  split at h1
  · rename_i es
    refine si D0 S1 σ H1 o _ B _ E1 h1 (fun k ck S2 y H2 h2 E2 x2 V2 => ?_) (kx.on x1)
    obtain ⟨hk, v, hv, h2⟩ := h2
    obtain ⟨ad, u, rfl, hr, hd, d1, d2⟩ := (V1.mono x2).dok
    obtain ⟨ov, g, hso, gg⟩ := dget_of hr d1 V2.1 hk
    rw [hv] at hso
    cases ov with
    | none => cases hso
    | some z => exact ⟨ad, z, rfl, g, kk v c S2 z H2 h2 E2 (x1.trans x2) (Val.got d1 d2 gg rfl hv)⟩
  · exact h1.elim

theorem snd_din [Tbs] {b : Bool} {ti td : TE} {we wd : WEx} (si : Snd W ti we) (sd : Snd W td wd) : ∀ (D0 : Addr → Bool) (S : Slots) (σ : St) (H : Hp) (o : Ow) (A : Bool → Slots → Prop) (B : EK) (Q : VK), Env D0 S σ H o →
    we S (fun k _ S1 => wd S1 (fun d _ S2 => match d with
      | .dict es => okK es k = true ∧ A (b != (lookE (dE es) k).isSome) S2
      | _ => False) B) B → (∀ z S' H', A z S' → Env D0 S' σ H' o → XE o H H' → Q (.bl z) H') → Xw W D0 σ o H B → ti σ H fun y H1 => td σ H1 fun x H2 => ∃ a ov, x = .ref a ∧ DGet H2 a y ov ∧ Q (.bl (b != ov.isSome)) H2 := by
  intro D0 S σ H o A B Q E hw kk kx
  refine si D0 S σ H o _ B _ E hw (fun k ck S1 y H1 h1 E1 x1 V1 => ?_) kx
  refine sd D0 S1 σ H1 o _ B _ E1 h1 (fun d c S2 x H2 h2 E2 x2 V2 => ?_) (kx.on x1)
  split at h2
  · obtain ⟨hk, h2⟩ := h2
    obtain ⟨ad, u, rfl, hr, hd, d1, d2⟩ := V2.dok
    obtain ⟨ov, g, hso, gg⟩ := dget_of hr d1 (V1.mono x2).1 hk
    exact ⟨ad, ov, rfl, g, by rw [hso]; exact kk _ S2 H2 h2 E2 (x1.trans x2)⟩
  · exact h2.elim
def wDIn (b : Bool) (we wd : WEx) : WEx := fun S A B => we S (fun k _ S1 => wd S1 (fun d _ S2 => match d with
  | .dict es => okK es k = true ∧ A (.bool (b != (lookE (dE es) k).isSome)) True S2
  | _ => False) B) B
def wDInT (b : Bool) (we wd : WEx) : WTx := fun S A B => we S (fun k _ S1 => wd S1 (fun d _ S2 => match d with
  | .dict es => okK es k = true ∧ A (b != (lookE (dE es) k).isSome) S2
  | _ => False) B) B
theorem bne_f (b : Bool) : (false != b) = b := by cases b <;> rfl
theorem bne_t (b : Bool) : (true != b) = !b := by cases b <;> rfl
theorem se_din [Tbs] {i d : Expr} {we wd : WEx} (a : At X W k) (hi : SE X W i we) (hd : SE X W d wd) (hm : behindInMarks .In d = false := by rfl) : SE X W (.Compare i [.In] [d] pos) (wDIn false we wd) := by
  obtain ⟨ti, pi, si⟩ := hi.ex
  obtain ⟨td, pd, sd⟩ := hd.ex
  refine ⟨_, pe_cmp (pc_din a.u1 pi pd) hm, ?_⟩
  intro D0 S σ H o A B Q E hw kk kx
  have q := snd_din (b := false) si sd D0 S σ H o (fun z S' => A (.bool z) True S') B Q E hw (fun z S' H' hz E' x => kk _ _ _ _ _ hz E' x (Val.of (.bl _))) kx
  simp only [bne_f] at q
  exact q
theorem se_dnotin [Tbs] {i d : Expr} {we wd : WEx} (a : At X W k) (hi : SE X W i we) (hd : SE X W d wd) (hm : behindInMarks .NotIn d = false := by rfl) : SE X W (.Compare i [.NotIn] [d] pos) (wDIn true we wd) := by
  obtain ⟨ti, pi, si⟩ := hi.ex
  obtain ⟨td, pd, sd⟩ := hd.ex
  refine ⟨_, pe_cmp (pc_dnotin a.u1 pi pd) hm, ?_⟩
  intro D0 S σ H o A B Q E hw kk kx
  have q := snd_din (b := true) si sd D0 S σ H o (fun z S' => A (.bool z) True S') B Q E hw (fun z S' H' hz E' x => kk _ _ _ _ _ hz E' x (Val.of (.bl _))) kx
  simp only [bne_t] at q
  exact q
theorem st_din [Tbs] {i d : Expr} {we wd : WEx} (a : At X W k) (hi : SE X W i we) (hd : SE X W d wd) (hm : behindInMarks .In d = false := by rfl) : ST X W (.Compare i [.In] [d] pos) (wDInT false we wd) := by
  obtain ⟨ti, pi, si⟩ := hi.ex
  obtain ⟨td, pd, sd⟩ := hd.ex
  refine ⟨_, pt_cmp (pc_din a.u1 pi pd) hm, ?_⟩
  intro D0 S σ H o A B Q E hw kk kx
  have q := snd_din (b := false) si sd D0 S σ H o A B (fun x H1 => ∃ c, x = .bl c ∧ Q c H1) E hw (fun z S' H' hz E' x => ⟨_, rfl, kk _ _ _ hz E' x⟩) kx
  simp only [bne_f] at q
  exact q
theorem st_dnotin [Tbs] {i d : Expr} {we wd : WEx} (a : At X W k) (hi : SE X W i we) (hd : SE X W d wd) (hm : behindInMarks .NotIn d = false := by rfl) : ST X W (.Compare i [.NotIn] [d] pos) (wDInT true we wd) := by
  obtain ⟨ti, pi, si⟩ := hi.ex
  obtain ⟨td, pd, sd⟩ := hd.ex
  refine ⟨_, pt_cmp (pc_dnotin a.u1 pi pd) hm, ?_⟩
  intro D0 S σ H o A B Q E hw kk kx
  have q := snd_din (b := true) si sd D0 S σ H o A B (fun x H1 => ∃ c, x = .bl c ∧ Q c H1) E hw (fun z S' H' hz E' x => ⟨_, rfl, kk _ _ _ hz E' x⟩) kx
  simp only [bne_t] at q
  exact q
/-- d.get(k, x) -/
def wDGet2 (wd we wx : WEx) : WEx := fun S A B => wd S (fun d c S1 => match d with
  | .dict es => we S1 (fun k _ S2 => wx S2 (fun x cx S3 => okK es k = true ∧ match lookE (dE es) k with
    | some v => A v c S3
    | none => A x cx S3) B) B
  | _ => False) B
theorem se_dget2 [Tbs] {o e f : Expr} {apos cpos : Pos} {wd we wx : WEx} (a : At X W k) (ho : SE X W o wd) (he : SE X W e we) (hf : SE X W f wx)
    (hb : attributeBase o "get" X.env (eval o X.env) = eval o X.env := by rfl)
    (hfew : ((backTo cpos (starEach [e, f] X.env)).all (fun x => !x.1) && (backToKw cpos (keywordEach [] X.env)).all (fun x => x.1.isSome) && decide (([e, f] : List Expr).length + ([] : List Keyword).length + (if ([] : List Keyword).isEmpty then 0 else 1) < 30)) = true := by rfl)
    (hl : (apos.endLine == cpos.line) = true := by rfl) (ht : backTo cpos (starEach [e, f] X.env) = [(false, eval e X.env), (false, eval f X.env)] := by rfl) :
    SE X W (.Call (.Attribute o "get" apos) [e, f] [] cpos) (wDGet2 wd we wx) := by
  obtain ⟨td, pd, sd⟩ := ho.ex
  obtain ⟨ti, pi, si⟩ := he.ex
  obtain ⟨tx, px, sx⟩ := hf.ex
  refine ⟨_, pe_dget2 a.u1 pd pi px ⟨hb, hfew, hl, ht⟩, ?_⟩
  intro D0 S σ H o A B Q E hw kk kx
  refine sd D0 S σ H o _ B _ E hw (fun d c S1 x H1 h1 E1 x1 V1 => ?_) kx
  split at h1
  · rename_i es
    obtain ⟨ad0, u0, e0, hr0, hd0, dd0, _⟩ := V1.dok
    cases e0
    have isd : IsD H1 ad0 := by
      rcases dd0 with ⟨kvs, es', rfl, rfl, r⟩ | ⟨kvs, rfl, r⟩
      · exact .inl ⟨kvs, co_dK hr0⟩
      · exact .inr ⟨kvs, co_dT hr0⟩
    refine ⟨ad0, rfl, isd, ?_⟩
    refine si D0 S1 σ H1 o _ B _ E1 h1 (fun k ck S2 y H2 h2 E2 x2 V2 => ?_) (kx.on x1)
    refine sx D0 S2 σ H2 o _ B _ E2 h2 (fun xd cx S3 z H3 h3 E3 x3 V3 => ?_) (kx.on (x1.trans x2))
    obtain ⟨hk, h3⟩ := h3
    obtain ⟨ad, u, e, hr, hd, d1, d2⟩ := ((V1.mono x2).mono x3).dok
    cases e
    obtain ⟨ov, g, hso, gg⟩ := dget_of hr d1 (V2.mono x3).1 hk
    refine ⟨ov, g, ?_⟩
    cases ov with
    | none =>
      cases hv : lookE (dE es) k with
      | some v => rw [hv] at hso; cases hso
      | none => rw [hv] at h3; exact kk xd cx S3 z H3 h3 E3 ((x1.trans x2).trans x3) V3
    | some w =>
      cases hv : lookE (dE es) k with
      | none => rw [hv] at hso; cases hso
      | some v => rw [hv] at h3; exact kk v c S3 w H3 h3 E3 ((x1.trans x2).trans x3) (Val.got d1 d2 gg rfl hv)
  · exact h1.elim

/-! ### d[k] = v -/
theorem Env.wrD [Tbs] {D0 : Addr → Bool} {S : Slots} {σ : St} {H : Hp} {o : Ow} {p : Addr} {i : Nat} {u : HO} {es : Es} (E : Env D0 S σ H o) (hs : i < S.length) (hσ : σ[i]? = some (some (.ref p))) (h : o p = some (i, false)) (r : DOk (vw D0 o (co H)) u es) :
    Env D0 (S.set i (.od es)) σ (upd H p u) o := by
  have hc := r.dct
  have at_ : ∀ {a : Addr} {w : HO}, a ≠ p → co H a = some w → co (upd H p u) a = some w := fun {a w} n e => by rw [co_ne n]; exact e
  have cp : co (upd H p u) p = some u := by rw [co_of upd_same (dct_nt hc.1), hc.2.1]
  refine ⟨by rw [List.length_set]; exact E.len, fun a q e => ?_, fun a e => ?_, fun j s e => ?_, E.nf_wr hc.2.2.2.1, E.tbU h⟩
  · by_cases z : a = p
    · subst z
      exact ⟨(E.live _ _ h).1, _, cp, hc.2.2.1⟩
    · obtain ⟨h1, w, h2, h3⟩ := E.live a q e
      exact ⟨h1, w, at_ z h2, h3⟩
  · have ne : a ≠ p := fun z => by rw [z, (E.live _ _ h).1] at e; cases e
    obtain ⟨w, h2, h3⟩ := E.dead a e
    exact ⟨w, at_ ne h2, h3⟩
  · by_cases z : i = j
    · subst z
      rw [List.getElem?_set_self hs] at e
      cases e
      exact ⟨p, u, hσ, h, cp, by rw [ow_vw h]; exact r⟩
    · rw [List.getElem?_set_ne z] at e
      have ne : ∀ {a : Addr} {b : Bool}, o a = some (j, b) → a ≠ p := fun {a b} e1 e2 => by rw [e2, h] at e1; cases e1; exact z rfl
      exact (E.sl j s e).move (by rw [ow_vw h]; exact Le.refl _) fun a b w h1 h2 => ⟨h1, at_ (ne h1) h2⟩
def wDPut (i : Nat) (we wv : WEx) : WS := fun S P => wv S (fun v cv S1 => (∃ es, S1[i]? = some (.od es)) ∧ we S1 (fun k _ S2 => match S2[i]? with
  | some (.od es) => okK es k = true ∧ es.length < sizeLine ∧ (cv ∨ flat v = true) ∧ P.nx (S2.set i (.od (putD es k v)))
  | _ => False) P.ex) P.ex
theorem ss_dput [Tbs] (i : Nat) {x : Str} {e v : Expr} {p pos' : Pos} {we wv : WEx} (a : At X W k) (he : SE X W e we) (hv : SE X W v wv) (hN : X.N[i]? = some x := by rfl) (hvs : Vis X.env.scope x := by first | exact Or.inl rfl | exact Or.inr (Or.inl rfl) | exact Or.inr (Or.inr rfl))
    (hd : (x == ("__debug__" : Str)) = false := by decide) (hcd : (x == ("__classdict__" : Str)) = false := by decide)
    (hs : swapsWith v (some (.Subscript (.Name x p) e pos')) pos.line X.env = pure false := by rfl) : SS X W (.Assign [.Subscript (.Name x p) e pos'] v pos) (wDPut i we wv) := by
  obtain ⟨te, pe, se⟩ := he.ex
  obtain ⟨tv, pv, sv⟩ := hv.ex
  refine ⟨_, ps_dput a.u1 (pe_var hN hvs hd hcd) pe pv hs, ?_⟩
  intro D0 S σ H o P D E hw g
  refine sv D0 S σ H o _ P.ex _ E hw (fun vd cv S1 v1 H1 h1 E1 x1 V1 => ?_) g.xw
  obtain ⟨⟨es0, hs0⟩, h1⟩ := h1
  obtain ⟨ad, u0, q1, q2, q3, q4⟩ := E1.sl i _ hs0
  refine ⟨.ref ad, q1, ?_⟩
  refine se D0 S1 σ H1 o _ P.ex _ E1 h1 (fun kd ck S2 y H2 h2 E2 x2 V2 => ?_) (g.xw.on x1)
  split at h2
  · rename_i es hs2
    obtain ⟨hk, hl, hc, h2⟩ := h2
    obtain ⟨ad', u, e1, e2, e3, e4⟩ := E2.sl i _ hs2
    rw [q1] at e1
    cases e1
    have hraw : H2 ad = some u := by
      rcases co_dct e3 e4.dct.1 with z | ⟨od, z⟩
      · exact z
      · have := E2.nf _ _ _ e2 z
        cases this
    obtain ⟨u', dp, dok⟩ := dput_of hraw e4 V2.1 hk hl (((V1.mono x2).flat E2).2 hc)
    exact ⟨ad, _, rfl, dp, g.nx _ _ _ _ h2 (E2.wrD (E2.lt hs2) q1 e2 dok) (((x1.trans x2).fr).trans (fr_wr e2))⟩
  · exact h2.elim

/-! ### new dicts -/
abbrev WD := Slots → (Es → Prop → Slots → Prop) → EK → Prop
def SndD [Tbs] (W : WM) (t : TE) (w : WD) : Prop := ∀ (D0 : Addr → Bool) (S : Slots) (σ : St) (H : Hp) (o : Ow) (A : Es → Prop → Slots → Prop) (B : EK) (Q : VK), Env D0 S σ H o → w S A B →
  (∀ es c S' p u H1, A es c S' → Env D0 S' σ H1 o → XE o H H1 → H1 p = none → DOk (vt D0 o (co H1)) u es → (c → DOk (vw D0 o (co H1)) u es) → Q (.ref p) (upd H1 p u)) → Xw W D0 σ o H B → t σ H Q
structure SD [Tbs] (X : Cx) (W : WM) (e : Expr) (w : WD) : Prop where
  ex : ∃ t, PE X e t ∧ SndD W t w
def wDK : WD := fun S A _ => A [(.none, .none)] True S
def wDT : WD := fun S A _ => A [] True S
theorem sd_newK [Tbs] : SD X W (.Dict [] [] pos) wDK := ⟨_, pe_dnewK, fun D0 S σ H o A B Q E hw kk kx p hp => kk _ _ S p _ H hw E (XE.refl o H) hp (.inl ⟨[], [], rfl, rfl, .nil⟩) fun _ => .inl ⟨[], [], rfl, rfl, .nil⟩⟩
theorem sd_newT [Tbs] : SD X W (.Dict [] [] pos) wDT := ⟨_, pe_dnewT, fun D0 S σ H o A B Q E hw kk kx p hp => kk _ _ S p _ H hw E (XE.refl o H) hp (.inr ⟨[], rfl, .nil⟩) fun _ => .inr ⟨[], rfl, .nil⟩⟩
/-- {k: v}, the key a tuple; the new dict stands empty while the pair is made -/
def tDisp1 (tk tv : TE) : TE := fun σ H Q => ∀ p, H p = none → tk σ (upd H p (.dT [])) fun x H1 => tv σ H1 fun y H2 => H2 p = some (.dT []) ∧ ∃ (b : Addr) (ks : List Key), x = .ref b ∧ H2 b = some (.tup (ks.map kV)) ∧ Q (.ref p) (upd H2 p (.dT (putK [] ks y)))
theorem pe_disp1 {ke ve : Expr} {tk tv : TE} (a : At X W k) (hk : PE X ke tk) (hv : PE X ve tv) : PE X (.Dict [some ke] [ve] pos) (tDisp1 tk tv) := by
  refine ⟨fun pins s σ H Q I q => ?_⟩
  have hn := I.hok.fresh (Nat.le_refl s.heap.objs.size)
  have I1 := I.laid (a := s.heap.objs.size) (o := .dT []) (h' := s.heap.push { cls := .type "dict", data := .dict #[] }) (t' := s.toks) (fun _ _ q => Heap.get?_push_of_some _ q) (Nat.le_refl _) (dt_empty s.heap I.big)
  refine wpAny_Dict_any rfl rfl (by simp) (by simp) ?_
  refine pairTrees_cons_walk (thn (hk.run pins _ σ _ _ I1 (q _ hn)) fun u s1 ⟨x, H1, I2, rx, q1⟩ => thn (hv.run pins s1 σ H1 _ I2 q1) fun w2 s2 ⟨y, H2, I3, ry, e, b, ks, ex, eb, q2⟩ => pairTrees_nil_walk ?_)
  subst ex
  obtain rfl : u = Value.ref b := rx
  obtain ⟨z, hd, xs, rel, dd⟩ := dt_of I3.hok e
  cases rel
  unfold storeAll
  rw [List.forIn_cons]
  refine wpAny_bind (wpAny_bind (wpAny_dictSet_heap (hsz := by simp) ((show X.A.units < cLine from Nat.lt_of_succ_lt a.u1)) (key_of I3.hok eb) dd fun h' dd' hs => wpAny_pure ?_))
  show wpAny _ _ (forIn [] PUnit.unit _) _ _ _
  rw [List.forIn_nil]
  refine wpAny_pure ?_
  refine ⟨.ref s.heap.objs.size, _, ?_, rfl, q2⟩
  have rel0 : KT H2 ([] : List (List Key × V)) [] := .nil
  obtain ⟨q, es, ep, hq, h2, h3, h4, _, h5⟩ := dd'
  refine d_write I3 (by rw [e]; exact True.intro) hs ⟨q, hq⟩ ⟨?_, hd, _, (rel0.put ks eb ry).keeps fun c ys ec => ?_, q, es, ep, hq, h2, h3, h4, h5⟩
  · have := length_putK ([] : List (List Key × V)) ks y
    rw [sizeLine_eq]
    simp only [List.length_nil] at this
    omega
  · rw [upd_ne (ne_of ec e (fun z => nomatch z))]
    exact ec
def wDisp1 (wk wv : WEx) : WD := fun S A B => wk S (fun k _ S1 => wv S1 (fun v cv S2 => isKT k = true ∧ A [(k, v)] cv S2) noX) noX
theorem sd_disp1 [Tbs] {ke ve : Expr} {wk wv : WEx} (a : At X W k) (hk : SE X W ke wk) (hv : SE X W ve wv) : SD X W (.Dict [some ke] [ve] pos) (wDisp1 wk wv) := by
  obtain ⟨tk, pk, sk⟩ := hk.ex
  obtain ⟨tv, pv, sv⟩ := hv.ex
  refine ⟨_, pe_disp1 a pk pv, ?_⟩
  intro D0 S σ H o A B Q E hw kk kx p hp
  have dD := (E.new hp).1
  have oD := (E.new hp).2
  have hr : rm (upd H p (.dT [])) p = H := by rw [rm_upd, rm_none hp]
  have E0 : Env (plus D0 p) S σ (upd H p (.dT [])) o := Env.hide (by rw [hr]; exact E) upd_same rfl
  have no : ∀ {H'}, Xw W (plus D0 p) σ o H' noX := fun _ _ _ _ _ h => h.elim
  refine sk (plus D0 p) S σ _ o _ noX _ E0 hw (fun kd ck S1 x H1 h1 E1 x1 V1 => ?_) no
  refine sv (plus D0 p) S1 σ H1 o _ noX _ E1 h1 (fun vd cv S2 y H2 h2 E2 x2 V2 => ?_) no
  obtain ⟨hkt, h2⟩ := h2
  obtain ⟨ks, b, rfl, rfl, hb⟩ := isKT_keys hkt (V1.mono x2).1
  have xx := x1.trans x2
  have eH2 : H2 p = some (.dT []) := xx p _ (by rw [oD]; rfl) upd_same rfl
  refine ⟨eH2, b, ks, rfl, co_tup (vt_le _ _ hb), ?_⟩
  have xr := xx.rm (D := p)
  rw [hr] at xr
  have q := kk [(.tuple (ks.map keyD), vd)] cv S2 p (.dT (putK [] ks y)) (rm H2 p) h2 (Env.show_ dD oD eH2 E2) xr rm_at (.inr ⟨[(ks, y)], rfl, .cons (by rw [← vt_plus]; exact V2.1) .nil⟩) fun hc => .inr ⟨[(ks, y)], rfl, .cons (by rw [← vw_plus]; exact V2.2 hc) .nil⟩
  have e : upd (rm H2 p) p (.dT (putK [] ks y)) = upd H2 p (.dT (putK [] ks y)) := by
    funext c
    unfold upd rm
    by_cases z : c = p
    · rw [if_pos z, if_pos z]
    · rw [if_neg z, if_neg z, if_neg z]
  rw [e] at q
  exact q
def fvals (es : Es) : Bool := es.all fun e => flat e.2
theorem RpK.flatV {G G' : Hp} (h : ∀ a xs, G a = some (.tup xs) → G' a = some (.tup xs)) : ∀ {kvs : List (Key × V)} {es : Es}, RpK G kvs es → fvals es = true → RpK G' kvs es
  | _, _, .nil, _ => .nil
  | _, _, .cons a b, f => by
    unfold fvals at f
    rw [List.all_cons, Bool.and_eq_true] at f
    exact .cons (a.flat h f.1) (b.flatV h f.2)
theorem RpT.flatV {G G' : Hp} (h : ∀ a xs, G a = some (.tup xs) → G' a = some (.tup xs)) : ∀ {kvs : List (List Key × V)} {es : Es}, RpT G kvs es → fvals es = true → RpT G' kvs es
  | _, _, .nil, _ => .nil
  | _, _, .cons a b, f => by
    unfold fvals at f
    rw [List.all_cons, Bool.and_eq_true] at f
    exact .cons (a.flat h f.1) (b.flatV h f.2)
theorem DOk.clean [Tbs] {D0 : Addr → Bool} {S : Slots} {σ : St} {H : Hp} {o : Ow} {u : HO} {es : Es} {c : Prop} (E : Env D0 S σ H o) (h1 : DOk (vt D0 o (co H)) u es) (h2 : c → DOk (vw D0 o (co H)) u es) (hc : c ∨ fvals es = true) : DOk (vw D0 o (co H)) u es := by
  rcases hc with hc | f
  · exact h2 hc
  · rcases h1 with ⟨kvs, es', rfl, rfl, r⟩ | ⟨kvs, rfl, r⟩
    · refine .inl ⟨kvs, es', rfl, rfl, r.flatV E.vtw ?_⟩
      unfold fvals at f ⊢
      rw [List.all_cons, Bool.and_eq_true] at f
      exact f.2
    · exact .inr ⟨kvs, rfl, r.flatV E.vtw f⟩
/-- a new dict becomes the frame's own -/
theorem Env.ownD [Tbs] {D0 : Addr → Bool} {S : Slots} {σ : St} {H : Hp} {o : Ow} {p : Addr} {u : HO} (E : Env D0 S σ H o) (i : Nat) (h : H p = none) (hc : isDct u = true ∧ core u = u ∧ isTup u = false ∧ isFrz u = false ∧ Mut (some u)) :
    Env D0 S σ (upd H p u) (ow1 o p i) ∧ vw D0 (ow1 o p i) (co (upd H p u)) = vw D0 o (co H) := by
  have nw := E.new h
  have le : Le (co H) (co (upd H p u)) := (Lh.new h).co
  have oe : ∀ {a : Addr}, a ≠ p → ow1 o p i a = o a := fun {a} n => if_neg n
  have ne : ∀ {a : Addr} {q : Nat × Bool}, o a = some q → a ≠ p := fun {a q} e z => by rw [z, nw.2] at e; cases e
  refine ⟨⟨E.len, fun a q e => ?_, fun a e => ?_, fun j s e => ?_, nf_own E h hc.2.2.2.1, (Lh.new h).tb E.tb⟩, vw_ow h⟩
  · by_cases z : a = p
    · subst z
      exact ⟨nw.1, _, co_of upd_same (dct_nt hc.1), by rw [hc.2.1]; exact hc.2.2.1⟩
    · rw [oe z] at e
      obtain ⟨h1, w, h2, h3⟩ := E.live a q e
      exact ⟨h1, w, le _ _ h2, h3⟩
  · obtain ⟨w, h2, h3⟩ := E.dead a e
    exact ⟨w, le _ _ h2, h3⟩
  · exact (E.sl j s e).move (by rw [vw_ow h]; exact Le.refl _) fun a b w h1 h2 => ⟨by rw [oe (ne h1)]; exact h1, le _ _ h2⟩
def wOwnD (i : Nat) (wd : WD) : WS := fun S P => wd S (fun es c S1 => (c ∨ fvals es = true) ∧ P.nx (S1.set i (.od es))) P.ex
theorem ss_ownD [Tbs] (i : Nat) {x : Str} {e : Expr} {p : Pos} {wd : WD} (a : At X W k) (he : SD X W e wd) (hi : X.N[i]? = some x := by rfl) (hx : Loc X.env.scope x := by first | exact Or.inl rfl | exact Or.inr rfl) (hs : swapsWith e (some (.Name x p)) pos.line X.env = pure false := by rfl) (hf : X.fn x = true ∨ X.env.scope.names.lookup x = some .local := by first | exact .inl rfl | exact .inr rfl) :
    SS X W (.Assign [.Name x p] e pos) (wOwnD i wd) := by
  obtain ⟨te, pe, se⟩ := he.ex
  refine ⟨_, ps_set a.nd hi hx pe hs hf, ?_⟩
  intro D0 S σ H o P D E hw g
  refine se D0 S σ H o _ P.ex _ E hw (fun es c S1 q u H1 h1 E1 x1 hq d1 d2 => ?_) g.xw
  have dk := DOk.clean E1 d1 d2 h1.1
  obtain ⟨E2, ev⟩ := E1.ownD i hq dk.dct
  refine g.nx _ _ _ _ h1.2 (E2.putM (m := .d es) i ⟨q, u, rfl, if_pos rfl, upd_same, dk.dct.2.1, by rw [ev]; exact dk⟩) (x1.fr.trans (fr_own (D0 := D0) (S := S1) (σ := σ) hq))
/-- .. among the values of a tuple -/
def wMD (wd : WD) (wr : WMi) : WMi := fun S A B => wd S (fun es c S1 => (c ∨ fvals es = true) ∧ wr S1 (fun ms S2 => A (.d es :: ms) S2) B) B
theorem sm_d [Tbs] (j : Nat) {e : Expr} {es : List Expr} {js : List Nat} {wd : WD} {wr : WMi} (he : SD X W e wd) (hr : SM X W es js wr) (hst : starEach (e :: es) X.env = (false, eval e X.env) :: starEach es X.env := by rfl) : SM X W (e :: es) (j :: js) (wMD wd wr) := by
  obtain ⟨te, pe, se⟩ := he.ex
  obtain ⟨tr, pr, sr⟩ := hr.ex
  refine ⟨_, pa_cons pe pr hst, ?_⟩
  intro D0 S σ H o A B Q E hw k kx
  refine se D0 S σ H o _ B _ E hw (fun ents c S1 p u H1 h1 E1 x1 hp d1 d2 => ?_) kx.xw
  have dk := DOk.clean E1 d1 d2 h1.1
  obtain ⟨E2, ev⟩ := E1.ownD j hp dk.dct
  have f1 : FrM o H (ow1 o p j) (upd H1 p u) := x1.frM.trans (frM_own hp)
  refine sr D0 S1 σ _ _ _ B _ E2 h1.2 (fun ms S2 us H2 o2 h2 E3 f2 M2 => ?_) (kx.on f1.fr)
  exact k _ S2 _ H2 o2 h2 E3 (f1.trans f2) (.cons (MiOk.on (m := .d ents) f2 ⟨p, u, rfl, if_pos rfl, upd_same, dk.dct.2.1, by rw [ev]; exact dk⟩) M2)

/-! ### x = y: what y holds is nobody's own from here on -/
theorem Env.fz [Tbs] {D0 : Addr → Bool} {S : Slots} {σ : St} {H : Hp} {o : Ow} {j : Nat} {a : Addr} {u : HO} {d : PyData} (E : Env D0 S σ H o) (hj : j < S.length) (hσ : σ[j]? = some (some (.ref a))) (ho : o a = some (j, false)) (hu : co H a = some u)
    (hr : ∀ G, Le (vw D0 o (co H)) G → G a = some u → Rp G (.ref a) d) : ∃ o', Env D0 (S.set j (.im d)) σ H o' ∧ Fr o H o' H ∧ Rp (vw D0 o' (co H)) (.ref a) d := by
  have la := E.live a _ ho
  have hv : Le (vw D0 o (co H)) (vw D0 (fun b => if b = a then none else o b) (co H)) := fun b w e => by
    unfold vw at e ⊢
    split at e
    · cases e
    · rename_i hn
      rw [if_neg]
      · exact e
      · intro z
        apply hn
        rw [Bool.or_eq_true] at z ⊢
        rcases z with z | z
        · exact .inl z
        · by_cases q : b = a
          · simp [q] at z
          · simp only [if_neg q] at z
            exact .inr z
  have hva : vw D0 (fun b => if b = a then none else o b) (co H) a = some u := vw_at la.1 (by simp) hu
  have rp := hr _ hv hva
  refine ⟨fun b => if b = a then none else o b, ⟨by rw [List.length_set]; exact E.len, fun b p e => ?_, E.dead, fun i s e => ?_, fun b p w e h => ?_, E.tb⟩, fun b w n h _ => ⟨h, ?_⟩, rp⟩
  · by_cases q : b = a
    · simp [q] at e
    · simp only [if_neg q] at e
      exact E.live b p e
  · by_cases q : j = i
    · subst q
      rw [List.getElem?_set_self hj] at e
      cases e
      exact ⟨.ref a, hσ, rp⟩
    · rw [List.getElem?_set_ne q] at e
      exact (E.sl i s e).move hv fun b bb w h1 h2 => ⟨by rw [if_neg (fun z => by rw [z, ho] at h1; cases h1; exact q rfl)]; exact h1, h2⟩
  · by_cases q : b = a
    · simp [q] at e
    · simp only [if_neg q] at e
      exact E.nf b p w e h
  · by_cases q : b = a
    · simp [q]
    · simp only [if_neg q]; exact n
/-- slot j may be given away -/
def fzS (j : Nat) (S : Slots) : Option (PyData × Slots) := match S[j]? with
  | some (.im d) => some (d, S)
  | some (.ol xs) => some (.list xs, S.set j (.im (.list xs)))
  | some (.od es) => some (.dict es, S.set j (.im (.dict es)))
  | _ => none
theorem Env.fzS [Tbs] {D0 : Addr → Bool} {S : Slots} {σ : St} {H : Hp} {o : Ow} {j : Nat} {d : PyData} {S' : Slots} (E : Env D0 S σ H o) (h : fzS j S = some (d, S')) : ∃ o' v, σ[j]? = some (some v) ∧ Env D0 S' σ H o' ∧ Fr o H o' H ∧ Rp (vw D0 o' (co H)) v d ∧ S'[j]? = some (.im d) := by
  unfold Pu.fzS at h
  split at h
  · rename_i d' hs
    cases h
    obtain ⟨v, h1, h2⟩ := E.sl j _ hs
    exact ⟨o, v, h1, E, Fr.refl _ _, h2, hs⟩
  · rename_i xs hs
    cases h
    obtain ⟨a, vs, h1, h2, h3, h4⟩ := E.sl j _ hs
    obtain ⟨o', E', f, r⟩ := E.fz (E.lt hs) h1 h2 h3 (fun G le hG => .lst hG (h4.mono le))
    exact ⟨o', _, h1, E', f, r, List.getElem?_set_self (E.lt hs)⟩
  · rename_i es hs
    cases h
    obtain ⟨a, u, h1, h2, h3, h4⟩ := E.sl j _ hs
    obtain ⟨o', E', f, r⟩ := E.fz (E.lt hs) h1 h2 h3 (fun G le hG => (h4.mono le).rp hG)
    exact ⟨o', _, h1, E', f, r, List.getElem?_set_self (E.lt hs)⟩
  · cases h
def wMv (i j : Nat) : WS := fun S P => match fzS j S with
  | some (d, S') => P.nx (S'.set i (.im d))
  | none => False
theorem ss_mv [Tbs] (i j : Nat) {x y : Str} {p q : Pos} (a : At X W k) (hi : X.N[i]? = some x := by rfl) (hx : Loc X.env.scope x := by first | exact Or.inl rfl | exact Or.inr rfl) (hs : swapsWith (.Name y q) (some (.Name x p)) pos.line X.env = pure false := by rfl) (hf : X.fn x = true ∨ X.env.scope.names.lookup x = some .local := by first | exact .inl rfl | exact .inr rfl)
    (hN : X.N[j]? = some y := by rfl) (hv : Vis X.env.scope y := by first | exact Or.inl rfl | exact Or.inr (Or.inl rfl) | exact Or.inr (Or.inr rfl)) (hd : (y == ("__debug__" : Str)) = false := by decide) (hcd : (y == ("__classdict__" : Str)) = false := by decide) :
    SS X W (.Assign [.Name x p] (.Name y q) pos) (wMv i j) := by
  refine ⟨_, ps_set a.nd hi hx (pe_var hN hv hd hcd) hs hf, ?_⟩
  intro D0 S σ H o P D E hw g
  unfold wMv at hw
  split at hw
  · rename_i d S' hz
    obtain ⟨o', v, h1, E', f, r, _⟩ := E.fzS hz
    exact ⟨v, h1, g.nx _ _ _ _ hw (E'.put i r) f⟩
  · exact hw.elim
end
end Pu

namespace Pu
open PySem L2

section
variable {X : Cx} {W : WM} {k : Nat} {pos : Pos}
/-! ### for k in d: the dict is locked while its keys are walked -/
def zD (a : Addr) (od : Obj) (u : HO) : (Addr → Bool) → Ow → Hp → Prop := fun _ o H => H a = some (.frz od u) ∧ o a = none
theorem wk_K [Tbs] {a : Addr} {od : Obj} {kvs : List (Key × V)} : Wk (Itk a od kvs) (kvs.map fun p => keyD p.1) True (zD a od (.dK kvs)) where
  go := fun D0 o H i z hi => ⟨z.1, by rw [List.length_map] at hi; exact hi⟩
  stop := fun D0 o H z => ⟨z.1, by rw [List.length_map]; exact Nat.le_refl _⟩
  yld := fun D0 S σ o H i x H' d z E hd y => by
    obtain ⟨rfl, k, v, hk, rfl⟩ := y
    rw [List.getElem?_map, hk] at hd
    cases hd
    exact ⟨Lh.refl _, Val.of (rp_key k)⟩
  xe := fun D0 D0' o H H' z l _ _ => ⟨l _ _ _ z.2 z.1, z.2⟩
  fr := fun D0 o H o' H' _ z f _ => f _ _ z.2 z.1 rfl
theorem wk_T [Tbs] {a : Addr} {od : Obj} {kvs : List (List Key × V)} : Wk (Itkt a od kvs) (kvs.map fun p => PyData.tuple (p.1.map keyD)) True (zD a od (.dT kvs)) where
  go := fun D0 o H i z hi => ⟨z.1, by rw [List.length_map] at hi; exact hi⟩
  stop := fun D0 o H z => ⟨z.1, by rw [List.length_map]; exact Nat.le_refl _⟩
  yld := fun D0 S σ o H i x H' d z E hd y => by
    obtain ⟨rfl, k, v, q, hk, rfl, hq⟩ := y
    rw [List.getElem?_map, hk] at hd
    cases hd
    have hc : co H' q = some (.tup (k.map kV)) := co_of hq
    have hv : vw D0 o (co H') q = some (.tup (k.map kV)) := by
      refine vw_at ?_ ?_ hc
      · cases z : D0 q with
        | false => rfl
        | true => obtain ⟨u, h1, h2⟩ := E.dead q z; rw [hc] at h1; cases h1; cases h2
      · cases z : o q with
        | none => rfl
        | some p => obtain ⟨_, u, h1, h2⟩ := E.live q p z; rw [hc] at h1; cases h1; cases h2
    exact ⟨Lh.refl _, Val.of (.tup hv (rp_keys k))⟩
  xe := fun D0 D0' o H H' z l _ _ => ⟨l _ _ _ z.2 z.1, z.2⟩
  fr := fun D0 o H o' H' _ z f _ => f _ _ z.2 z.1 rfl
def keysD (es : Es) : List PyData := (dE es).map (·.1)
theorem PS.or {st : Stmt} {t t' : TS} (h : PS X st t) (h' : PS X st t') : PS X st (fun D σ H => t D σ H ∨ t' D σ H) := ⟨fun pins s σ H D I q => q.elim (h.run pins s σ H D I) (h'.run pins s σ H D I)⟩
theorem PE.or {e : Expr} {t t' : TE} (h : PE X e t) (h' : PE X e t') : PE X e (fun σ H Q => t σ H Q ∨ t' σ H Q) := ⟨fun pins s σ H Q I q => q.elim (h.run pins s σ H Q I) (h'.run pins s σ H Q I)⟩
theorem at_frz [Tbs] {D0 : Addr → Bool} {S : Slots} {σ : St} {H : Hp} {o : Ow} (E : Env D0 S σ H o) {a : Addr} {od : Obj} {u : HO} (h : H a = some (.frz od u)) : o a = none := by
  cases q : o a with
  | none => rfl
  | some p => have := E.nf a p _ q h; cases this
theorem Env.unlock [Tbs] {D0 : Addr → Bool} {S : Slots} {σ : St} {H : Hp} {o : Ow} (E : Env D0 S σ H o) {a : Addr} {od : Obj} {u : HO} (h : H a = some (.frz od u)) (ho : o a = none) (hd : isDct u = true) (hc : core u = u) : Env D0 S σ (upd H a u) o :=
  E.reco (co_unlock h hd hc) (fun b p e => upd_ne fun z => by rw [z, ho] at e; cases e) (E.tb.upd h)
theorem Env.lock [Tbs] {D0 : Addr → Bool} {S : Slots} {σ : St} {H : Hp} {o : Ow} (E : Env D0 S σ H o) {a : Addr} {od : Obj} {u : HO} (h : H a = some u) (ho : o a = none) (hd : isDct u = true) (hc : core u = u) : Env D0 S σ (upd H a (.frz od u)) o :=
  E.reco (co_lock h hd hc) (fun b p e => upd_ne fun z => by rw [z, ho] at e; cases e) (E.tb.upd h (dct_nx hd))
theorem Fr.unlock {H H' : Hp} {o o' : Ow} {a : Addr} {od : Obj} {u : HO} (h : H a = some u) (ho : o a = none) (f : Fr o (upd H a (.frz od u)) o' H') : H' a = some (.frz od u) ∧ o' a = none ∧ Fr o H o' (upd H' a u) := by
  obtain ⟨h1, h2⟩ := f a _ ho upd_same rfl
  refine ⟨h1, h2, fun b w n e t => ?_⟩
  by_cases z : b = a
  · subst z
    rw [h] at e
    cases e
    exact ⟨upd_same, h2⟩
  · obtain ⟨h3, h4⟩ := f b w n (by rw [upd_ne z]; exact e) t
    exact ⟨by rw [upd_ne z]; exact h3, h4⟩
theorem vw_no {D0 : Addr → Bool} {o : Ow} {C : Hp} {a : Addr} {u : HO} (h : vw D0 o C a = some u) : D0 a = false ∧ o a = none := by
  unfold vw at h
  split at h
  · cases h
  · rename_i hn
    constructor
    · cases q : D0 a with
      | false => rfl
      | true => exact absurd (by rw [q, Bool.true_or]) hn
    · cases q : o a with
      | none => rfl
      | some p => exact absurd (by rw [q]; simp) hn
theorem keysD_K {G : Hp} {kvs : List (Key × V)} {es' : Es} (r : RpK G kvs es') : keysD ((.none, .none) :: es') = kvs.map fun p => keyD p.1 := r.fst
theorem keysD_T {G : Hp} {kvs : List (List Key × V)} {es : Es} (r : RpT G kvs es) : keysD es = kvs.map fun p => PyData.tuple (p.1.map keyD) := by
  unfold keysD
  rw [r.dE.1]
  exact r.fst
def wForD (i : Nat) (wg : WTg) (wb : WS) : WS := fun S P => match fzS i S with
  | some (.dict es, S1) => forL wg wb True { P with ex := noX } (keysD es) S1
  | _ => False
theorem ss_forD [Tbs] (i : Nat) {tg : Expr} {x : Str} {p : Pos} {body : List Stmt} {L : List Nat} {wg : WTg} {wb : WS} (a : At X W k) (hg : SG X tg L wg) (hb : SSs X W body wb)
    (hN : X.N[i]? = some x := by rfl) (hv : Vis X.env.scope x := by first | exact Or.inl rfl | exact Or.inr (Or.inl rfl) | exact Or.inr (Or.inr rfl)) (hd : (x == ("__debug__" : Str)) = false := by decide) (hcd : (x == ("__classdict__" : Str)) = false := by decide)
    (hs : ∀ y, foldedSetIterable (.Name x p) X.env y = pure y := by intro _; rfl) : SS X W (.For tg (.Name x p) body [] pos) (wForD i wg wb) := by
  obtain ⟨gg, pg, sg⟩ := hg.ex
  obtain ⟨tb, pb, sb⟩ := hb.ex
  have h0 := ps_for (pos := pos) a.po a.calm (pi_keys (tg := tg) (pe_var hN hv hd hcd)) pg pb hs
  refine ⟨_, PS.or h0 (ps_lock h0), ?_⟩
  -- the loop, the dict locked
  have core_ : ∀ {D0 : Addr → Bool} {S : Slots} {σ : St} {H : Hp} {o : Ow} {P : En} {D : Ends} {es : Es} {ad : Addr} {od : Obj} {u : HO}, Env D0 S σ H o → σ[i]? = some (some (.ref ad)) → H ad = some (.frz od u) → o ad = none → DOk (vw D0 o (co H)) u es → forL wg wb True P (keysD es) S → Goes W D0 o H P D →
      tFor (iKeys (tVar i)) gg tb D σ H := by
    intro D0 S σ H o P D es ad od u E hσ hL ho dk hf g
    refine ⟨.ref ad, hσ, ad, od, rfl, ?_⟩
    rcases dk with ⟨kvs, es', rfl, rfl, r⟩ | ⟨kvs, rfl, r⟩
    · rw [keysD_K r] at hf
      exact .inl ⟨kvs, hL, for_core sg sb wk_K trivial ⟨hL, ho⟩ E hf g⟩
    · rw [keysD_T r] at hf
      exact .inr ⟨kvs, hL, for_core sg sb wk_T trivial ⟨hL, ho⟩ E hf g⟩
  intro D0 S0 σ H o0 P D E0 hw g0
  unfold wForD at hw
  split at hw
  · rename_i es S hz
    obtain ⟨o, v, hσ, E, f0, r, hs1⟩ := E0.fzS hz
    have g := g0.on f0
    obtain ⟨ad, u, rfl, hvw, dk⟩ := r.dok
    have hc := dk.dct
    obtain ⟨hD, ho⟩ := vw_no hvw
    have g' : Goes W D0 o H { P with ex := noX } D := ⟨g.nx, g.bk, g.ct, g.rt, fun _ _ _ _ _ _ _ h => h.elim⟩
    rcases co_dct (vw_le _ _ hvw) hc.1 with hraw | ⟨od, hraw⟩
    · right
      refine ⟨ad, u, hraw, hc.2.2.2.2, fun od => ?_⟩
      refine core_ (E.lock hraw ho hc.1 hc.2.1) hσ upd_same ho (by rw [co_lock hraw hc.1 hc.2.1]; exact dk) hw ?_
      refine ⟨fun S' σ' H' o' h E' f => ?_, fun S' σ' H' o' h E' f => ?_, fun S' σ' H' o' h E' f => ?_, fun d c S' v σ' H' o' h E' f V => ?_, fun _ _ _ _ _ _ _ h => h.elim⟩
      · obtain ⟨h1, h2, h3⟩ := f.unlock hraw ho
        exact ⟨h1, g.nx S' σ' _ o' h (E'.unlock h1 h2 hc.1 hc.2.1) h3⟩
      · obtain ⟨h1, h2, h3⟩ := f.unlock hraw ho
        exact ⟨h1, g.bk S' σ' _ o' h (E'.unlock h1 h2 hc.1 hc.2.1) h3⟩
      · obtain ⟨h1, h2, h3⟩ := f.unlock hraw ho
        exact ⟨h1, g.ct S' σ' _ o' h (E'.unlock h1 h2 hc.1 hc.2.1) h3⟩
      · obtain ⟨h1, h2, h3⟩ := f.unlock hraw ho
        exact ⟨h1, g.rt d c S' v σ' _ o' h (E'.unlock h1 h2 hc.1 hc.2.1) h3 (V.reco (co_unlock h1 hc.1 hc.2.1))⟩
    · left
      exact core_ E hσ hraw ho dk hw g'
  · exact hw.elim

/-! ### [.. for k in d]: d is no more the frame's own -/
def wLcD (i : Nat) (wg : WTg) (wt : WTx) (we : WEx) (vs : List Nat) : WLs := fun S A B => match S[i]? with
  | some (.im (.dict es)) => (vs.all fun j => notRng S[j]?) = true ∧ lcL wg wt we True (wipeS S vs) (keysD es) [] True fun acc ca => A acc ca S
  | _ => False
theorem snd_lcD [Tbs] (i : Nat) {mg : Str → Option Value} {L vs : List Nat} {wg : WTg} {wt : WTx} {we : WEx} (hL : ∀ j ∈ L, j ∈ vs) : SndO W (fun σ H Q => tLc (iKeys (tVar i)) (gW L wg) (tTW (WN mg) wt) (tW (WN mg) we) vs σ H Q ∨ tLockE (tLc (iKeys (tVar i)) (gW L wg) (tTW (WN mg) wt) (tW (WN mg) we) vs) σ H Q) (wLcD i wg wt we vs) := by
  intro D0 S σ H o A B Q E hw kk kx
  unfold wLcD at hw
  split at hw
  · rename_i es hi
    obtain ⟨hnr, hw⟩ := hw
    obtain ⟨v, hσ, r⟩ := E.sl i _ hi
    obtain ⟨ad, u, rfl, hvw, dk⟩ := r.dok
    have hc := dk.dct
    obtain ⟨hD, ho⟩ := vw_no hvw
    have core_ : ∀ {H : Hp} {od : Obj} {Q : VK}, Env D0 S σ H o → H ad = some (.frz od u) → DOk (vw D0 o (co H)) u es →
        (∀ (acc : List PyData) (ca : Prop) (us : List V) (D : Addr) (H2 : Hp), A acc ca S → Env D0 S σ H2 o → XE o H H2 → H2 D = none → Vals' D0 o H2 us acc ca → Q (.ref D) (upd H2 D (.lst us))) →
        tLc (iKeys (tVar i)) (gW L wg) (tTW (WN mg) wt) (tW (WN mg) we) vs σ H Q := by
      intro H od Q E hL' dk kk
      refine ⟨.ref ad, hσ, ad, od, rfl, ?_⟩
      rcases dk with ⟨kvs, es', rfl, rfl, r⟩ | ⟨kvs, rfl, r⟩
      · rw [keysD_K r] at hw
        exact .inl ⟨kvs, hL', lc_core hL wk_K hnr ⟨hL', ho⟩ E hw kk⟩
      · rw [keysD_T r] at hw
        exact .inr ⟨kvs, hL', lc_core hL wk_T hnr ⟨hL', ho⟩ E hw kk⟩
    rcases co_dct (vw_le _ _ hvw) hc.1 with hraw | ⟨od, hraw⟩
    · right
      refine ⟨ad, u, hraw, hc.2.2.2.2, fun od => ?_⟩
      refine core_ (E.lock hraw ho hc.1 hc.2.1) upd_same (by rw [co_lock hraw hc.1 hc.2.1]; exact dk) fun acc ca us D H2 hA E2 x2 hn V => ?_
      have h2 : H2 ad = some (.frz od u) := x2 ad _ (by rw [ho]; rfl) upd_same rfl
      have ne : D ≠ ad := fun z => by rw [z, h2] at hn; cases hn
      refine ⟨by rw [upd_ne (Ne.symm ne)]; exact h2, ?_⟩
      have e : upd (upd H2 D (.lst us)) ad u = upd (upd H2 ad u) D (.lst us) := by
        funext c
        unfold upd
        by_cases z : c = ad
        · subst z; rw [if_pos rfl, if_neg (Ne.symm ne), if_pos rfl]
        · rw [if_neg z, if_neg z]
      rw [e]
      have hco := co_unlock h2 hc.1 hc.2.1
      refine kk acc ca S us D _ hA (E2.unlock h2 ho hc.1 hc.2.1) (fun b w m eb nt => ?_) (by rw [upd_ne ne]; exact hn) (by unfold Vals' at V ⊢; rw [hco]; exact V)
      by_cases z : b = ad
      · subst z
        rw [hraw] at eb
        cases eb
        exact upd_same
      · rw [upd_ne z]
        exact x2 b w m (by rw [upd_ne z]; exact eb) nt
    · left
      exact core_ E hraw dk fun acc ca us D H2 hA E2 x2 hn V => kk acc ca S us D H2 hA E2 x2 hn V
  · exact hw.elim
theorem so_lcD [Tbs] (i : Nat) {elt tg : Expr} {x : Str} {p : Pos} {ifs : List Expr} {scope : Scope} {own : List (Str × Nat)} {L : List Nat} {wg : WTg} {wt : WTx} {we : WEx} (a : At X W k) (ok : blkC X.N X.env.scope scope own = true)
    (hg : ∀ (s : Shared) (H : Hp) (C : Addr) (cl : List (Str × Addr)) (fp : List Addr), SG (X.blk s H scope (compEnvC scope cl C X.env) fp) tg L wg)
    (ht : ∀ (s : Shared) (H : Hp) (C : Addr) (cl : List (Str × Addr)) (fp : List Addr), At (X.blk s H scope (compEnvC scope cl C X.env) fp) (WN X.mg) k → STs (X.blk s H scope (compEnvC scope cl C X.env) fp) (WN X.mg) ifs wt)
    (he : ∀ (s : Shared) (H : Hp) (C : Addr) (cl : List (Str × Addr)) (fp : List Addr), At (X.blk s H scope (compEnvC scope cl C X.env) fp) (WN X.mg) k → SE (X.blk s H scope (compEnvC scope cl C X.env) fp) (WN X.mg) elt we)
    (hL : ∀ j ∈ L, j ∈ own.map (·.2)) (hN : X.N[i]? = some x := by rfl) (hv : Vis X.env.scope x := by first | exact Or.inl rfl | exact Or.inr (Or.inl rfl) | exact Or.inr (Or.inr rfl)) (hd : (x == ("__debug__" : Str)) = false := by decide) (hcd : (x == ("__classdict__" : Str)) = false := by decide)
    (hs : ∀ y, foldedSetIterable (.Name x p) X.env y = pure y := by intro _; rfl) : SO X W (.ListComp elt [⟨tg, .Name x p, ifs, 0⟩] scope pos) (wLcD i wg wt we (own.map (·.2))) := by
  have h0 := pe_lc (pos := pos) a.calm a.nd (pi_keys (tg := tg) (pe_var hN hv hd hcd)) (blkOk_by ok) (fun s H C cl fp => (hg s H C cl fp).pg) (fun s H C cl fp => (ht s H C cl fp (a.blk ..)).pt) (fun s H C cl fp => (he s H C cl fp (a.blk ..)).pe) hs
  exact ⟨_, PE.or h0 (pe_lock h0), snd_lcD i hL⟩
theorem ss_setLcOD [Tbs] (l i : Nat) {y : Str} {py : Pos} {elt tg : Expr} {x : Str} {p : Pos} {ifs : List Expr} {scope : Scope} {own : List (Str × Nat)} {spos : Pos} {L : List Nat} {wg : WTg} {wt : WTx} {we : WEx} (a : At X W k) (ok : blkC X.N X.env.scope scope own = true)
    (hg : ∀ (s : Shared) (H : Hp) (C : Addr) (cl : List (Str × Addr)) (fp : List Addr), SG (X.blk s H scope (compEnvC scope cl C X.env) fp) tg L wg)
    (ht : ∀ (s : Shared) (H : Hp) (C : Addr) (cl : List (Str × Addr)) (fp : List Addr), At (X.blk s H scope (compEnvC scope cl C X.env) fp) (WN X.mg) k → STs (X.blk s H scope (compEnvC scope cl C X.env) fp) (WN X.mg) ifs wt)
    (he : ∀ (s : Shared) (H : Hp) (C : Addr) (cl : List (Str × Addr)) (fp : List Addr), At (X.blk s H scope (compEnvC scope cl C X.env) fp) (WN X.mg) k → SE (X.blk s H scope (compEnvC scope cl C X.env) fp) (WN X.mg) elt we)
    (hL : ∀ j ∈ L, j ∈ own.map (·.2)) (hy : X.N[l]? = some y := by rfl) (hyl : X.env.scope.names.lookup y = some .local := by rfl) (hk : X.env.scope.kind = .function := by rfl) (hln : (py.line == pos.line) = true := by rfl) (ha : (scope.names.any fun (n, k) => n == y && (k == .local || k == .cell)) = false := by decide)
    (hN : X.N[i]? = some x := by rfl) (hv : Vis X.env.scope x := by first | exact Or.inl rfl | exact Or.inr (Or.inl rfl) | exact Or.inr (Or.inr rfl)) (hd : (x == ("__debug__" : Str)) = false := by decide) (hcd : (x == ("__classdict__" : Str)) = false := by decide)
    (hs : ∀ y, foldedSetIterable (.Name x p) X.env y = pure y := by intro _; rfl) : SS X W (.Assign [.Name y py] (.ListComp elt [⟨tg, .Name x p, ifs, 0⟩] scope pos) spos) (wOwn l (wLcD i wg wt we (own.map (·.2)))) := by
  have h0 := ps_setLc (pos := pos) (spos := spos) a.calm a.nd hy hyl (sw_true hk hyl hln ha) (pi_keys (tg := tg) (pe_var hN hv hd hcd)) (blkOk_by ok) (fun s H C cl fp => (hg s H C cl fp).pg) (fun s H C cl fp => (ht s H C cl fp (a.blk ..)).pt) (fun s H C cl fp => (he s H C cl fp (a.blk ..)).pe) hs
  refine ⟨_, PS.or h0 (ps_lock h0), ?_⟩
  intro D0 S σ H o P D E hw g
  refine snd_lcD (mg := X.mg) i hL D0 S σ H o _ P.ex (fun x H1 => gName l x σ H1 D.nx) E hw (fun ds c S1 vs q H1 h1 E1 x1 hq V1 => ?_) g.xw
  exact g.nx _ _ _ _ h1.2 (E1.own l hq (V1.clean E1 h1.1)) (x1.fr.trans (fr_own (D0 := D0) (S := S1) (σ := σ) hq))
theorem ss_setLcD [Tbs] (l i : Nat) {y : Str} {py : Pos} {elt tg : Expr} {x : Str} {p : Pos} {ifs : List Expr} {scope : Scope} {own : List (Str × Nat)} {spos : Pos} {L : List Nat} {wg : WTg} {wt : WTx} {we : WEx} (a : At X W k) (ok : blkC X.N X.env.scope scope own = true)
    (hg : ∀ (s : Shared) (H : Hp) (C : Addr) (cl : List (Str × Addr)) (fp : List Addr), SG (X.blk s H scope (compEnvC scope cl C X.env) fp) tg L wg)
    (ht : ∀ (s : Shared) (H : Hp) (C : Addr) (cl : List (Str × Addr)) (fp : List Addr), At (X.blk s H scope (compEnvC scope cl C X.env) fp) (WN X.mg) k → STs (X.blk s H scope (compEnvC scope cl C X.env) fp) (WN X.mg) ifs wt)
    (he : ∀ (s : Shared) (H : Hp) (C : Addr) (cl : List (Str × Addr)) (fp : List Addr), At (X.blk s H scope (compEnvC scope cl C X.env) fp) (WN X.mg) k → SE (X.blk s H scope (compEnvC scope cl C X.env) fp) (WN X.mg) elt we)
    (hL : ∀ j ∈ L, j ∈ own.map (·.2)) (hy : X.N[l]? = some y := by rfl) (hyl : X.env.scope.names.lookup y = some .local := by rfl) (hk : X.env.scope.kind = .function := by rfl) (hln : (py.line == pos.line) = true := by rfl) (ha : (scope.names.any fun (n, k) => n == y && (k == .local || k == .cell)) = false := by decide)
    (hN : X.N[i]? = some x := by rfl) (hv : Vis X.env.scope x := by first | exact Or.inl rfl | exact Or.inr (Or.inl rfl) | exact Or.inr (Or.inr rfl)) (hd : (x == ("__debug__" : Str)) = false := by decide) (hcd : (x == ("__classdict__" : Str)) = false := by decide)
    (hs : ∀ y, foldedSetIterable (.Name x p) X.env y = pure y := by intro _; rfl) : SS X W (.Assign [.Name y py] (.ListComp elt [⟨tg, .Name x p, ifs, 0⟩] scope pos) spos) (wSet l (wO (wLcD i wg wt we (own.map (·.2))))) := by
  have h0 := ps_setLc (pos := pos) (spos := spos) a.calm a.nd hy hyl (sw_true hk hyl hln ha) (pi_keys (tg := tg) (pe_var hN hv hd hcd)) (blkOk_by ok) (fun s H C cl fp => (hg s H C cl fp).pg) (fun s H C cl fp => (ht s H C cl fp (a.blk ..)).pt) (fun s H C cl fp => (he s H C cl fp (a.blk ..)).pe) hs
  refine ⟨_, PS.or h0 (ps_lock h0), ?_⟩
  intro D0 S σ H o P D E hw g
  refine snd_o (snd_lcD (mg := X.mg) i hL) D0 S σ H o _ P.ex (fun x H1 => gName l x σ H1 D.nx) E hw (fun d c S1 v H1 h1 E1 x1 V1 => ?_) g.xw
  exact g.nx _ _ _ _ h1.2 (E1.put l ((V1.flat E1).2 h1.1)) x1.fr
/-- slot i's dict is given up, then the statement -/
def wFz (i : Nat) (w : WS) : WS := fun S P => match fzS i S with
  | some (_, S1) => w S1 P
  | none => False
theorem ss_fz [Tbs] (i : Nat) {st : Stmt} {w : WS} (h : SS X W st w) : SS X W st (wFz i w) := by
  obtain ⟨t, p, s⟩ := h.ex
  refine ⟨t, p, ?_⟩
  intro D0 S σ H o P D E hw g
  unfold wFz at hw
  split at hw
  · rename_i d S1 hz
    obtain ⟨o', v, _, E', f, _, _⟩ := E.fzS hz
    exact s D0 S1 σ H o' P D E' hw (g.on f)
  · exact hw.elim

/-! ### list(d), len(d), min(xs, default=x), xs.pop() -/
def gListD : RDL := fun ds _ K => match ds with
  | [.dict es] => K (keysD es) True
  | _ => False
theorem isKeys_rp [Tbs] {D0 : Addr → Bool} {S : Slots} {σ : St} {H : Hp} {o : Ow} (E : Env D0 S σ H o) : ∀ {kvs : List (List Key × V)} {bs : List Addr}, IsKeys H kvs bs → RpAll (vw D0 o (co H)) (bs.map V.ref) (kvs.map fun p => PyData.tuple (p.1.map keyD))
  | _, _, .nil => .nil
  | _, _, .cons (a := p) (b := q) a b => by
    have hc : co H q = some (.tup (p.1.map kV)) := co_of a
    have hv : vw D0 o (co H) q = some (.tup (p.1.map kV)) := by
      refine vw_at ?_ ?_ hc
      · cases z : D0 q with
        | false => rfl
        | true => obtain ⟨u, h1, h2⟩ := E.dead q z; rw [hc] at h1; cases h1; cases h2
      · cases z : o q with
        | none => rfl
        | some p => obtain ⟨_, u, h1, h2⟩ := E.live q p z; rw [hc] at h1; cases h1; cases h2
    exact .cons (.tup hv (rp_keys _)) (isKeys_rp E b)
theorem rp_keysK {G : Hp} : ∀ (kvs : List (Key × V)), RpAll G (kvs.map fun p => kV p.1) (kvs.map fun p => keyD p.1)
  | [] => .nil
  | p :: r => .cons (rp_key p.1) (rp_keysK r)
theorem fo_listD [Tbs] (a : At X W k) : FnO X (.type "list") gListD := by
  refine ⟨_, CallR.or (call_listD a.calm) (call_list_dT a.calm), ?_⟩
  intro D0 S σ o H vs ds c K Q E V hg kk
  unfold gListD at hg
  split at hg
  · obtain ⟨v, rfl, U⟩ := vals1 V
    obtain ⟨ad, u, rfl, hr, hd, d1, d2⟩ := U.dok
    rcases d1 with ⟨kvs, es', rfl, rfl, r⟩ | ⟨kvs, rfl, r⟩
    · rw [keysD_K r] at hg
      exact .inl ⟨ad, kvs, rfl, co_dK hr, fun q hq => kk _ _ _ q H hg (Lh.refl H) hq ⟨rp_keysK kvs, fun _ => rp_keysK kvs⟩⟩
    · rw [keysD_T r] at hg
      refine .inr ⟨ad, kvs, rfl, co_dT hr, fun q bs hq ik => ?_⟩
      have rk := isKeys_rp E ik
      exact kk _ _ _ q H hg (Lh.refl H) hq ⟨rk.mono vw_le_vt, fun _ => rk⟩
  · exact hg.elim
/-- min(xs, default=z), the items ints -/
def rMnD : List V → List V → Hp → VK → Prop := fun vs zs H Q => ∃ (a : Addr) (ns : List Int) (d : V), vs = [V.ref a] ∧ zs = [d] ∧ H a = some (.lst (ns.map V.int)) ∧ (ns = [] → Q d H) ∧ ∀ n r, ns = n :: r → Q (.int (r.foldl min n)) H
theorem cr_mnD (a : At X W k) : CallRK X (.builtin "min") [Str.ofString "default"] rMnD := by
  intro pins s σ H xs zs us ws Q I r rz h
  obtain ⟨p, ns, d, rfl, rfl, hp, q0, q1⟩ := h
  rw [Vals.ref1 r]
  cases rz with
  | cons rd rz =>
    cases rz
    rename_i w
    obtain ⟨its, rv, hl, _⟩ := I.list (SqL.at hp)
    obtain ⟨as, rr⟩ := reads_ints (s := s.heap) rv.ints
    refine PySem.W.min_list_default (I.ok.hd a.calm) hl.isList (xs := ns.map PyData.int) (d := w) rr ?_ ?_ (fun e h' tk hk => ?_) fun y ys i v h' tk bs e hi r hk => ?_
    · cases ns with
      | nil => exact ⟨by simp, by simp⟩
      | cons n r => exact alike_ints n r
    · cases ns with
      | nil => have := a.u64; show X.A.units + 1 + 0 < cLine; omega
      | cons n r => exact hu_mm a.u64
    · exact ⟨d, H, I.kept hk, rd, q0 (List.map_eq_nil_iff.mp e)⟩
    · cases ns with
      | nil => cases e
      | cons n ns =>
        rw [List.map_cons] at e
        cases e
        rw [PySem.W.minD_ints] at r
        cases r
        exact ⟨.int _, H, I.kept hk, ⟨_, rfl⟩, q1 n ns rfl⟩
def wMinD (we wf : WEx) : WEx := fun S A B => we S (fun d _ S1 => match d with
  | .list xs => wf S1 (fun z cz S2 => ∃ ns, ints? xs = some ns ∧ match ns with
    | [] => A z cz S2
    | n :: r => A (.int (r.foldl min n)) True S2) B
  | _ => False) B
theorem se_minD [Tbs] {e f : Expr} {p kp : Pos} {we wf : WEx} (a : At X W k) (he : SE X W e we) (hf : SE X W f wf) (hm : X.mg "min" = none) (hv : bootBuiltins "min" = some (.builtin "min")) (hg : Gl X "min" := by rfl)
    (hst : starEach [e] X.env = (false, eval e X.env) :: starEach [] X.env := by rfl)
    (hb : backTo pos (starEach (e :: []) X.env) = (false, eval e X.env) :: backTo pos (starEach [] X.env) := by rfl) (hpl : (backTo pos (starEach (e :: []) X.env)).any (·.1) = false := by rfl)
    (hall : (backToKw pos (keywordEach [⟨some "default", f, kp⟩] X.env)).all (·.1.isSome) = true := by rfl) (hnone : (backToKw pos (keywordEach [⟨some "default", f, kp⟩] X.env)).any (·.1.isNone) = false := by rfl) (hks : (backToKw pos (keywordEach [⟨some "default", f, kp⟩] X.env)).filterMap (·.1) = [Str.ofString "default"] := by rfl) :
    SE X W (.Call (.Name "min" p) [e] [⟨some "default", f, kp⟩] pos) (wMinD we wf) := by
  obtain ⟨te, pe, se⟩ := he.ex
  obtain ⟨tf, pf, sf⟩ := hf.ex
  refine ⟨_, pe_callBK (cr_mnD a) hg hm hv (pa_cons pe pa_nil hst) (pk_cons pf pk_nil) (by decide) (by decide) hb hpl hall hnone hks, ?_⟩
  intro D0 S σ H o A B Q E hw kk kx
  refine se D0 S σ H o _ B _ E hw (fun d c S1 x H1 h1 E1 x1 V1 => ?_) kx
  split at h1
  · refine sf D0 S1 σ H1 o _ B _ E1 h1 (fun z cz S2 y H2 h2 E2 x2 V2 => ?_) (kx.on x1)
    obtain ⟨ns, hi, h2⟩ := h2
    obtain ⟨ad, vs, rfl, e1, r1, _⟩ := (V1.mono x2).items E2
    rw [ints?_of hi] at r1
    rw [r1.ints] at e1
    refine ⟨ad, ns, y, rfl, rfl, e1, fun e0 => ?_, fun n r e0 => ?_⟩
    · subst e0
      exact kk _ _ S2 y H2 h2 E2 (x1.trans x2) V2
    · subst e0
      exact kk _ _ S2 _ H2 h2 E2 (x1.trans x2) (Val.of (.int _))
  · exact h1.elim
end
end Pu

namespace Pu
open PySem L2

/-! ### objects of an own class -/
abbrev Fs := List (Str × PyData)
theorem core_ins {u : HO} {C dx : Addr} {ws : List (Str × V)} (h : core u = .ins C dx ws) : u = .ins C dx ws := by
  cases u <;> simp [core] at h ⊢
  · exact h
  · rename_i o w
    cases w <;> simp [isDct] at h
theorem core_own {u : HO} {a : Addr} (h : core u = .own a) : u = .own a := by
  cases u <;> simp [core] at h ⊢
  · exact h
  · rename_i o w
    cases w <;> simp [isDct] at h
theorem co_ins {H : Hp} {a C dx : Addr} {ws : List (Str × V)} (h : co H a = some (.ins C dx ws)) : H a = some (.ins C dx ws) := by
  obtain ⟨w, h1, _, h2⟩ := co_inv h
  rw [h1, core_ins h2]
theorem co_own {H : Hp} {a b : Addr} (h : co H a = some (.own b)) : H a = some (.own b) := by
  obtain ⟨w, h1, _, h2⟩ := co_inv h
  rw [h1, core_own h2]
theorem RpF.look {G : Hp} : ∀ {ws : List (Str × V)} {fs : Fs}, RpF G ws fs → ∀ f : Str, (ws.lookup f).isSome = (fs.lookup f).isSome ∧ ∀ d, fs.lookup f = some d → ∃ v, ws.lookup f = some v ∧ Rp G v d
  | _, _, .nil, f => ⟨rfl, fun d h => by cases h⟩
  | _, _, .cons (x := x) (v := v) (d := d) (fs := ws) (es := fs) a b, f => by
    have q := b.look f
    rw [List.lookup_cons, List.lookup_cons]
    cases e : f == x with
    | true => exact ⟨rfl, fun d h => by cases h; exact ⟨v, rfl, a⟩⟩
    | false => exact q
def putFd (f : Str) (d : PyData) : Fs → Fs
  | [] => [(f, d)]
  | (g, x) :: r => if g = f then (g, d) :: r else (g, x) :: putFd f d r
theorem RpF.put {G : Hp} {f : Str} {v : V} {d : PyData} (r : Rp G v d) : ∀ {ws : List (Str × V)} {fs : Fs}, RpF G ws fs → RpF G (putF f v ws) (putFd f d fs)
  | _, _, .nil => .cons r .nil
  | _, _, .cons (x := x) a b => by
    unfold putF putFd
    by_cases e : x = f
    · rw [if_pos e, if_pos e]; exact .cons r b
    · rw [if_neg e, if_neg e]; exact .cons a (b.put r)
theorem RpF.length {G : Hp} : ∀ {ws : List (Str × V)} {fs : Fs}, RpF G ws fs → ws.length = fs.length
  | _, _, .nil => rfl
  | _, _, .cons _ b => by rw [List.length_cons, List.length_cons, b.length]
/-- the object at a, its attributes at dx -/
structure ObAt (H : Hp) (a dx C : Addr) (ws : List (Str × V)) : Prop where
  ne : a ≠ dx
  i : H a = some (.ins C dx ws)
  d : H dx = some (.own a)
theorem Env.obAt [Tbs] {D0 : Addr → Bool} {S : Slots} {σ : St} {H : Hp} {o : Ow} {i : Nat} {a dx C : Addr} {fs : Fs} (E : Env D0 S σ H o) (h : S[i]? = some (.ob a dx C fs)) :
    ∃ ws, σ[i]? = some (some (.ref a)) ∧ o a = some (i, true) ∧ o dx = some (i, true) ∧ ObAt H a dx C ws ∧ RpF (vw D0 o (co H)) ws fs := by
  obtain ⟨ws, h1, h2, h3, h4, h5, h6, h7⟩ := E.sl i _ h
  exact ⟨ws, h1, h2, h3, ⟨h4, co_ins h5, co_own h6⟩, h7⟩
/-- the object has changed, and nothing but it -/
theorem Env.obj [Tbs] {D0 : Addr → Bool} {S : Slots} {σ : St} {H H' : Hp} {o : Ow} {i : Nat} {a dx C : Addr} {fs fs' : Fs} {ws' : List (Str × V)} (E : Env D0 S σ H o) (hi : S[i]? = some (.ob a dx C fs)) (b : ButT a dx H H') (r : ObAt H' a dx C ws') (rf : RpF (vw D0 o (co H')) ws' fs') :
    Env D0 (S.set i (.ob a dx C fs')) σ H' o ∧ XE o H H' := by
  obtain ⟨ws, hσ, ha, hc, ob0, _⟩ := E.obAt hi
  have hil := E.lt hi
  have x : XE o H H' := fun d u m e n => b.k d u (fun z => by rw [z, ha] at m; cases m) (fun z => by rw [z, hc] at m; cases m) e n
  have cx : ∀ d u, d ≠ a → d ≠ dx → co H d = some u → co H' d = some u := fun d u n1 n2 h => co_on (fun w e n => b.k d w n1 n2 e n) h
  have ca : co H' a = some (.ins C dx ws') := co_of r.i
  have cd : co H' dx = some (.own a) := co_of r.d
  refine ⟨⟨by rw [List.length_set]; exact E.len, fun d p e => ?_, fun d e => ?_, fun j s e => ?_, fun d p u e h1 => ?_, b.tb E.tb⟩, x⟩
  · obtain ⟨h1, u, h2, h3⟩ := E.live d p e
    refine ⟨h1, ?_⟩
    by_cases n1 : d = a
    · subst n1; exact ⟨_, ca, rfl⟩
    · by_cases n2 : d = dx
      · subst n2; exact ⟨_, cd, rfl⟩
      · exact ⟨u, cx _ _ n1 n2 h2, h3⟩
  · obtain ⟨u, h2, h3⟩ := E.dead d e
    have n1 : d ≠ a := fun z => by rw [z, (E.live a _ ha).1] at e; cases e
    have n2 : d ≠ dx := fun z => by rw [z, (E.live dx _ hc).1] at e; cases e
    exact ⟨u, cx _ _ n1 n2 h2, h3⟩
  · by_cases z : i = j
    · subst z
      rw [List.getElem?_set_self hil] at e
      cases e
      exact ⟨ws', hσ, ha, hc, r.ne, ca, cd, rf⟩
    · rw [List.getElem?_set_ne z] at e
      have ne : ∀ {d : Addr} {b : Bool}, o d = some (j, b) → d ≠ a ∧ d ≠ dx := fun {d b} e => ⟨fun q => (by rw [q, ha] at e; cases e; exact z rfl), fun q => (by rw [q, hc] at e; cases e; exact z rfl)⟩
      exact (E.sl j s e).move x.vw fun d b u h1 h2 => ⟨h1, cx _ _ (ne h1).1 (ne h1).2 h2⟩
  · by_cases n1 : d = a
    · subst n1; rw [r.i] at h1; cases h1; rfl
    · by_cases n2 : d = dx
      · subst n2; rw [r.d] at h1; cases h1; rfl
      · obtain ⟨u', h2, h3⟩ := E.at_ e
        rw [b.k d u' n1 n2 h2 (E.nt e h2)] at h1
        cases h1
        exact h3
/-- the frame gets a new object -/
theorem Env.newOb [Tbs] {D0 : Addr → Bool} {S : Slots} {σ : St} {H : Hp} {o : Ow} {a dx C : Addr} {fs : Fs} {ws : List (Str × V)} (E : Env D0 S σ H o) (i : Nat) (ha : H a = none) (hd : H dx = none) (hne : a ≠ dx) (rf : RpF (vw D0 o (co H)) ws fs) :
    Env D0 (S.set i (.ob a dx C fs)) (σ.set i (some (.ref a))) (upd (upd H dx (.own a)) a (.ins C dx ws)) (orng a dx i o) ∧ Fr o H (orng a dx i o) (upd (upd H dx (.own a)) a (.ins C dx ws)) := by
  have na := E.new ha
  have nd := E.new hd
  have ca : co (upd (upd H dx (.own a)) a (.ins C dx ws)) a = some (.ins C dx ws) := co_of upd_same
  have cd : co (upd (upd H dx (.own a)) a (.ins C dx ws)) dx = some (.own a) := by rw [co_ne (Ne.symm hne)]; exact co_of upd_same
  have oe : ∀ {b : Addr}, b ≠ a → b ≠ dx → orng a dx i o b = o b := fun {b} n1 n2 => if_neg (fun z => z.elim n1 n2)
  have ne : ∀ {b : Addr} {q : Nat × Bool}, o b = some q → b ≠ a ∧ b ≠ dx := fun {b q} e => ⟨fun z => (by rw [z, na.2] at e; cases e), fun z => (by rw [z, nd.2] at e; cases e)⟩
  have cx : ∀ b u, co H b = some u → co (upd (upd H dx (.own a)) a (.ins C dx ws)) b = some u := fun b u e => by
    have n1 : b ≠ a := fun z => by rw [z, co_non ha] at e; cases e
    have n2 : b ≠ dx := fun z => by rw [z, co_non hd] at e; cases e
    rw [co_upd, upd_ne n1, co_upd, upd_ne n2]
    exact e
  have hv : vw D0 (orng a dx i o) (co (upd (upd H dx (.own a)) a (.ins C dx ws))) = vw D0 o (co H) := by
    funext b
    unfold vw
    by_cases n1 : b = a
    · subst n1
      have e1 : orng b dx i o b = some (i, true) := if_pos (.inl rfl)
      rw [e1, if_pos (by simp)]
      split
      · rfl
      · exact (co_non ha).symm
    · by_cases n2 : b = dx
      · subst n2
        have e1 : orng a b i o b = some (i, true) := if_pos (.inr rfl)
        rw [e1, if_pos (by simp)]
        split
        · rfl
        · exact (co_non hd).symm
      · rw [oe n1 n2, co_ne n1, co_ne n2]
  have oa : orng a dx i o a = some (i, true) := if_pos (.inl rfl)
  have od : orng a dx i o dx = some (i, true) := if_pos (.inr rfl)
  refine ⟨⟨by rw [List.length_set, List.length_set]; exact E.len, fun b q e => ?_, fun b e => ?_, fun j s e => ?_, fun b p u e h => ?_, E.tb.ext fun b u e => by rw [upd_ne (ne_of_none e ha), upd_ne (ne_of_none e hd)]; exact e⟩, fun b u n e _ => ?_⟩
  · by_cases n1 : b = a
    · subst n1; exact ⟨na.1, _, ca, rfl⟩
    · by_cases n2 : b = dx
      · subst n2; exact ⟨nd.1, _, cd, rfl⟩
      · rw [oe n1 n2] at e
        obtain ⟨h1, u, h2, h3⟩ := E.live b q e
        exact ⟨h1, u, cx _ _ h2, h3⟩
  · obtain ⟨u, h2, h3⟩ := E.dead b e
    exact ⟨u, cx _ _ h2, h3⟩
  · by_cases z : i = j
    · subst z
      have hi : i < S.length := by
        obtain ⟨h1, _⟩ := List.getElem?_eq_some_iff.mp e
        rw [List.length_set] at h1
        exact h1
      rw [List.getElem?_set_self hi] at e
      cases e
      exact ⟨ws, by rw [List.getElem?_set_self (by rw [E.len]; exact hi)], oa, od, hne, ca, cd, by rw [hv]; exact rf⟩
    · rw [List.getElem?_set_ne z] at e ⊢
      exact (E.sl j s e).move (by rw [hv]; exact Le.refl _) fun b c u h1 h2 => ⟨by rw [oe (ne h1).1 (ne h1).2]; exact h1, cx _ _ h2⟩
  · by_cases n1 : b = a
    · subst n1; rw [upd_same] at h; cases h; rfl
    · by_cases n2 : b = dx
      · subst n2; rw [upd_ne n1, upd_same] at h; cases h; rfl
      · rw [oe n1 n2] at e
        rw [upd_ne n1, upd_ne n2] at h
        exact E.nf b p u e h
  · have n1 : b ≠ a := ne_of_none e ha
    have n2 : b ≠ dx := ne_of_none e hd
    exact ⟨by rw [upd_ne n1, upd_ne n2]; exact e, by rw [oe n1 n2]; exact n⟩

section
variable {X : Cx} {W : WM} {k : Nat} {pos : Pos}
/-! ### self.f, self.f = e -/
def wFldO (C : Addr) (i : Nat) (f : Str) : WEx := fun S A _ => match S[i]? with
  | some (.ob _ _ C' fs) => C' = C ∧ ∃ d, fs.lookup f = some d ∧ A d True S
  | _ => False
theorem se_fldO [Tbs] {C : Addr} (i : Nat) {x f : Str} {p : Pos} (c : Cls X.K C) (n : NoAttr X.K C f) (hN : X.N[i]? = some x := by rfl) (hv : Vis X.env.scope x := by first | exact Or.inl rfl | exact Or.inr (Or.inl rfl) | exact Or.inr (Or.inr rfl))
    (hd : (x == ("__debug__" : Str)) = false := by decide) (hcd : (x == ("__classdict__" : Str)) = false := by decide)
    (hb : attributeBase (.Name x p) f X.env (eval (.Name x p) X.env) = eval (.Name x p) X.env := by rfl) : SE X W (.Attribute (.Name x p) f pos) (wFldO C i f) := by
  refine ⟨_, pe_fld (pe_var hN hv hd hcd) hb, ?_⟩
  intro D0 S σ H o A B Q E hw kk kx
  unfold wFldO at hw
  split at hw
  · rename_i a dx C' fs hs
    obtain ⟨rfl, d, hl, hw⟩ := hw
    obtain ⟨ws, h1, h2, h3, ob, rf⟩ := E.obAt hs
    obtain ⟨v, e, r⟩ := (rf.look f).2 d hl
    exact ⟨.ref a, h1, a, _, dx, ws, v, rfl, ob.i, c, n, e, kk d True S v H hw E (XE.refl o H) (Val.of r)⟩
  · exact hw.elim
def wFldS (C : Addr) (i : Nat) (f : Str) (we : WEx) : WS := fun S P => we S (fun d c S1 => match S1[i]? with
  | some (.ob a dx C' fs) => C' = C ∧ (c ∨ flat d = true) ∧ fs.length < 1000 ∧ P.nx (S1.set i (.ob a dx C' (putFd f d fs)))
  | _ => False) P.ex
theorem ss_fldO [Tbs] {C : Addr} (i : Nat) {x f : Str} {p p' : Pos} {e : Expr} {we : WEx} (c : Cls X.K C) (n : NoAttr X.K C f) (he : SE X W e we) (hN : X.N[i]? = some x := by rfl) (hv : Vis X.env.scope x := by first | exact Or.inl rfl | exact Or.inr (Or.inl rfl) | exact Or.inr (Or.inr rfl))
    (hd : (x == ("__debug__" : Str)) = false := by decide) (hcd : (x == ("__classdict__" : Str)) = false := by decide)
    (hs : swapsWith e (some (.Attribute (.Name x p) f p')) pos.line X.env = pure false := by rfl) : SS X W (.Assign [.Attribute (.Name x p) f p'] e pos) (wFldS C i f we) := by
  obtain ⟨te, pe, se⟩ := he.ex
  refine ⟨_, ps_fld (pe_var hN hv hd hcd) pe hs, ?_⟩
  intro D0 S σ H o P D E hw g
  refine se D0 S σ H o _ P.ex _ E hw (fun d cc S1 v H1 h1 E1 x1 V1 => ?_) g.xw
  split at h1
  · rename_i a dx C' fs hs1
    obtain ⟨rfl, hc, hl, h1⟩ := h1
    obtain ⟨ws, q1, q2, q3, ob, rf⟩ := E1.obAt hs1
    refine ⟨.ref a, q1, a, _, dx, ws, rfl, ob.i, c, n, by rw [rf.length]; exact hl, ?_⟩
    have bt : ButT a dx H1 (upd H1 a (.ins C' dx (putF f v ws))) := ⟨fun b u n1 n2 e _ => by rw [upd_ne n1]; exact e, fun _ => E1.tbU q2⟩
    have oa : ObAt (upd H1 a (.ins C' dx (putF f v ws))) a dx C' (putF f v ws) := ⟨ob.ne, upd_same, by rw [upd_ne (Ne.symm ob.ne)]; exact ob.d⟩
    have hvw : vw D0 o (co (upd H1 a (.ins C' dx (putF f v ws)))) = vw D0 o (co H1) := ow_vw q2
    obtain ⟨E2, x2⟩ := E1.obj (fs' := putFd f d fs) hs1 bt oa (by rw [hvw]; exact rf.put ((V1.flat E1).2 hc))
    exact g.nx _ _ _ _ h1 E2 (x1.trans x2).fr
  · exact h1.elim

/-! ### defs whose first parameter is an object -/
abbrev SpO := Fs → List PyData → (PyData → Fs → Prop) → (XC → Fs → Prop) → Prop
def spOfO [Tbs] (C : Addr) (mg : Str → Option Value) (n : Nat) (sp : SpO) : Sp := fun vs H Q E => TbOk H ∧ ∃ (a dx : Addr) (ws : List (Str × V)) (fs : Fs) (us : List V) (ds : List PyData) (D0 : Addr → Bool) (A : PyData → Fs → Prop) (B : XC → Fs → Prop), vs = .ref a :: us ∧ ObAt H a dx C ws ∧ ds.length = n ∧
  D0 a = false ∧ D0 dx = false ∧ (∀ b, D0 b = true → ∃ u, co H b = some u ∧ isTup u = false) ∧ RpF (vw D0 (orng a dx 0 fun _ => none) (co H)) ws fs ∧ RpAll (vw D0 (orng a dx 0 fun _ => none) (co H)) us ds ∧ sp fs ds A B ∧
  (∀ d fs' ws' v H', A d fs' → ButT a dx H H' → ObAt H' a dx C ws' → RpF (vw D0 (orng a dx 0 fun _ => none) (co H')) ws' fs' → Rp (vw D0 (orng a dx 0 fun _ => none) (co H')) v d → Q v H') ∧
  (∀ x fs' ws' cls dd H', B x fs' → ButT a dx H H' → ObAt H' a dx C ws' → RpF (vw D0 (orng a dx 0 fun _ => none) (co H')) ws' fs' → XOk mg H' x cls dd → E cls dd H')
theorem spOfO_len [Tbs] {C : Addr} {mg : Str → Option Value} {n : Nat} {sp : SpO} {vs : List V} {H : Hp} {Q : VK} {E : XK} (h : spOfO C mg n sp vs H Q E) : vs.length = n + 1 := by
  obtain ⟨_, a, dx, ws, fs, us, ds, D0, A, B, rfl, _, h1, _, _, _, _, h2, _⟩ := h
  rw [List.length_cons, h2.length, h1]
def ffl (fs : Fs) : Bool := fs.all fun e => flat e.2
theorem RpF.flatF {G G' : Hp} (h : ∀ a xs, G a = some (.tup xs) → G' a = some (.tup xs)) : ∀ {ws : List (Str × V)} {fs : Fs}, RpF G ws fs → ffl fs = true → RpF G' ws fs
  | _, _, .nil, _ => .nil
  | _, _, .cons a b, f => by
    unfold ffl at f
    rw [List.all_cons, Bool.and_eq_true] at f
    exact .cons (a.flat h f.1) (b.flatF h f.2)
theorem tup_vw [Tbs] {D0 : Addr → Bool} {S : Slots} {σ : St} {H : Hp} {o : Ow} (E : Env D0 S σ H o) {b : Addr} {xs : List V} (h : co H b = some (.tup xs)) : vw D0 o (co H) b = some (.tup xs) := by
  refine vw_at ?_ ?_ h
  · cases z : D0 b with
    | false => rfl
    | true => obtain ⟨u, h1, h2⟩ := E.dead b z; rw [h] at h1; cases h1; cases h2
  · cases z : o b with
    | none => rfl
    | some p => obtain ⟨_, u, h1, h2⟩ := E.live b p z; rw [h] at h1; cases h1; cases h2
/-- the object in slot i and the values ds are handed to a promise -/
theorem snd_ob [Tbs] {C : Addr} {D0 : Addr → Bool} {S1 : Slots} {σ : St} {H1 : Hp} {o : Ow} {i n : Nat} {a dx : Addr} {fs : Fs} {sp : SpO} {vs : List V} {ds : List PyData} {c : Prop} {A : PyData → Prop → Slots → Prop} {B : EK} {Q : VK} {XX : XK}
    (mg : Str → Option Value) (E1 : Env D0 S1 σ H1 o) (hi : S1[i]? = some (.ob a dx C fs)) (V1 : Vals' D0 o H1 vs ds c) (hl : ds.length = n)
    (hsp : sp fs ds (fun d fs' => ((c ∨ flats ds = true) ∨ ffl fs' = true) ∧ A d (c ∨ flats ds = true) (S1.set i (.ob a dx C fs'))) (fun x fs' => ((c ∨ flats ds = true) ∨ ffl fs' = true) ∧ B x (S1.set i (.ob a dx C fs'))))
    (kk : ∀ d c' S' v H', A d c' S' → Env D0 S' σ H' o → XE o H1 H' → Val D0 o H' v d c' → Q v H')
    (kx : ∀ x S' cls dd H', B x S' → Env D0 S' σ H' o → XE o H1 H' → XOk mg H' x cls dd → XX cls dd H') : spOfO C mg n sp (.ref a :: vs) H1 Q XX := by
  obtain ⟨ws, q1, q2, q3, ob, rf⟩ := E1.obAt hi
  by_cases hc : c ∨ flats ds = true
  · have rv := V1.clean E1 hc
    refine ⟨E1.tb, a, dx, ws, fs, vs, ds, fun b => (D0 b || (o b).isSome) && !decide (b = a) && !decide (b = dx), _, _, rfl, ob, hl, by simp, by simp, fun b hb => E1.deadV b (by simp at hb; simpa using hb.1.1), by rw [vw_borrow q2 q3]; exact rf, by rw [vw_borrow q2 q3]; exact rv, hsp,
      fun d fs' ws' v H' hd bt oa rf' r => ?_, fun x fs' ws' cls dd H' hx bt oa rf' ok => ?_⟩
    · rw [vw_borrow q2 q3] at rf' r
      obtain ⟨E2, x2⟩ := E1.obj hi bt oa rf'
      exact kk d _ _ v H' hd.2 E2 x2 ((Val.of r).imp fun _ => trivial)
    · rw [vw_borrow q2 q3] at rf'
      obtain ⟨E2, x2⟩ := E1.obj hi bt oa rf'
      exact kx x _ cls dd H' hx.2 E2 x2 ok
  · have keep : ∀ {H' : Hp} {ws' : List (Str × V)} {fs' : Fs}, ButT a dx H1 H' → ObAt H' a dx C ws' → RpF (vt D0 o (co H')) ws' fs' → ffl fs' = true → Env D0 (S1.set i (.ob a dx C fs')) σ H' o ∧ XE o H1 H' := fun {H' ws' fs'} bt oa rf' hf => by
      refine E1.obj hi bt oa (rf'.flatF (fun b xs e => ?_) hf)
      have e2 := vt_le _ _ e
      unfold vt at e
      split at e
      · cases e
      · rename_i hn
        refine vw_at ?_ ?_ e2
        · cases z : D0 b with
          | false => rfl
          | true => exact absurd (by rw [z, Bool.true_or]) hn
        · cases z : o b with
          | none => rfl
          | some p =>
            obtain ⟨_, u, h1, h2⟩ := E1.live b p z
            have n1 : b ≠ a := fun y => hn (by rw [y, q2]; simp [mutO])
            have n2 : b ≠ dx := fun y => hn (by rw [y, q3]; simp [mutO])
            obtain ⟨w, y, nt, rfl⟩ := co_inv h1
            rw [co_of (bt.k b w n1 n2 y nt) nt] at e2
            rw [Option.some.inj e2] at h2
            cases h2
    refine ⟨E1.tb, a, dx, ws, fs, vs, ds, fun b => (D0 b || mutO (o b)) && !decide (b = a) && !decide (b = dx), _, _, rfl, ob, hl, by simp, by simp, fun b hb => E1.deadM b (by simp at hb; simpa using hb.1.1), by rw [vt_borrow q2 q3]; exact rf.mono vw_le_vt, by rw [vt_borrow q2 q3]; exact V1.1, hsp,
      fun d fs' ws' v H' hd bt oa rf' r => ?_, fun x fs' ws' cls dd H' hx bt oa rf' ok => ?_⟩
    · rw [vt_borrow q2 q3] at rf' r
      obtain ⟨E2, x2⟩ := keep bt oa rf' (hd.1.resolve_left hc)
      exact kk d _ _ v H' hd.2 E2 x2 ⟨r, fun z => absurd z hc⟩
    · rw [vt_borrow q2 q3] at rf'
      obtain ⟨E2, x2⟩ := keep bt oa rf' (hx.1.resolve_left hc)
      exact kx x _ cls dd H' hx.2 E2 x2 ok
end
section
variable {X : Cx} {W : WM} {k : Nat} {pos : Pos}

/-! ### o.m(..), o.p, len(o) -/
/-- a method of the class at C -/
structure MDef (P : Program) (w : World) (K : PySem.W.Frag) (mg : Str → Option Value) (base : Heap) (k : Nat) (C : Addr) (m : Str) (n : Nat) (sp : Sp) : Prop where
  ex : ∃ (f : Addr) (fd : FuncData) (ps : List Str), FnOk P w K mg base (L2.CX P w) k f fd ps sp ∧ Meth K C m f ∧ Binds K fd ps [] ∧ ps.length = n
def tMethW (C : Addr) (m : Str) (sp : Sp) (E : St → XK) (ta : TE) (t : TA) : TE := fun σ H Q => ta σ H fun x H1 => ∃ a dx fs, x = .ref a ∧ H1 a = some (.ins C dx fs) ∧ fs.lookup m = none ∧ t σ H1 fun vs H2 => sp (x :: vs) H2 Q (E σ)
theorem pe_methW {C f : Addr} {fd : FuncData} {ps : List Str} {sp : Sp} {E : St → XK} {o e : Expr} {es : List Expr} {m : Str} {apos : Pos} {ta : TE} {t : TA} {j : Nat} {pl : Sem Bool} (he : PE X o ta) (c : Cls X.K C) (hm : Meth X.K C m f) (F : FnOk X.prog X.w X.K X.mg X.base (L2.CX X.prog X.w) j f fd ps sp) (hr : Room j X.A) (hb : Binds X.K fd ps []) (hx : ∀ σ, PassesAt (L2.CX X.prog X.w) X σ (E σ)) (ha : PA X (e :: es) t)
    (hst : starEach (e :: es) X.env = (false, eval e X.env) :: starEach es X.env := by rfl) (hpl : (backTo pos (starEach es X.env)).any (·.1) = false := by rfl)
    (ht : eval (.Call (.Attribute o m apos) (e :: es) [] pos) X.env = (do
      let ov ← eval o X.env
      standAt apos.atName
      let (f, first) ← holding [ov] (getMethod ov m pl)
      callWith pos f first (backTo pos (starEach (e :: es) X.env)) (backToKw pos (keywordEach [] X.env))) := by rfl) :
    PE X (.Call (.Attribute o m apos) (e :: es) [] pos) (tMethW C m sp E ta t) := by
  refine ⟨fun pins s σ H Q I h => ?_⟩
  refine PySem.W.methodCall_KW (pl := pl) (thn (he.run pins s σ H _ I h) fun u s1 ⟨x, H1, I1, rx, a, dx, fs, ex, ea, l, q⟩ => ?_) ht
  subst ex
  obtain rfl : u = Value.ref a := rx
  refine getmeth_ok I1 ea c hm l ?_
  refine PySem.W.callWith_K (first := [.ref a]) (h₀ := X.base) I.ok.mod.kin hm.kp (thn (ha.run pos pins s1 σ H1 _ I1 q) fun us s2 ⟨vs, H2, I2, r, q2⟩ => ⟨I2.kIn, ?_⟩) hst hpl
  exact run_fnS (us := .ref a :: us) (vs := .ref a :: vs) F hr hb (hx σ) I2 (.cons rfl r) q2
theorem pe_methW0 {C f : Addr} {fd : FuncData} {ps : List Str} {sp : Sp} {E : St → XK} {o : Expr} {m : Str} {apos : Pos} {ta : TE} {j : Nat} {pl : Sem Bool} (he : PE X o ta) (c : Cls X.K C) (hm : Meth X.K C m f) (F : FnOk X.prog X.w X.K X.mg X.base (L2.CX X.prog X.w) j f fd ps sp) (hr : Room j X.A) (hb : Binds X.K fd ps []) (hx : ∀ σ, PassesAt (L2.CX X.prog X.w) X σ (E σ))
    (ht : eval (.Call (.Attribute o m apos) [] [] pos) X.env = (do
      let ov ← eval o X.env
      standAt apos.atName
      let (f, first) ← holding [ov] (getMethod ov m pl)
      callWith pos f first (backTo pos (starEach [] X.env)) (backToKw pos (keywordEach [] X.env))) := by rfl) :
    PE X (.Call (.Attribute o m apos) [] [] pos) (tMethW C m sp E ta tNil) := by
  refine ⟨fun pins s σ H Q I h => ?_⟩
  refine PySem.W.methodCall_KW (pl := pl) (thn (he.run pins s σ H _ I h) fun u s1 ⟨x, H1, I1, rx, a, dx, fs, ex, ea, l, q⟩ => ?_) ht
  subst ex
  obtain rfl : u = Value.ref a := rx
  refine getmeth_ok I1 ea c hm l ?_
  exact PySem.W.callWith_K0 (first := [.ref a]) I1.kIn hm.kp (run_fnS (us := [.ref a]) (vs := [.ref a]) F hr hb (hx σ) I1 (.cons rfl .nil) q)
def wMeth (C : Addr) (i : Nat) (m : Str) (sp : SpO) (wa : WLs) : WEx := fun S A B => (∃ a dx fs0, S[i]? = some (.ob a dx C fs0) ∧ fs0.lookup m = none) ∧ wa S (fun ds c S1 => match S1[i]? with
  | some (.ob a dx C' fs) => C' = C ∧ sp fs ds (fun d fs' => ((c ∨ flats ds = true) ∨ ffl fs' = true) ∧ A d (c ∨ flats ds = true) (S1.set i (.ob a dx C' fs'))) (fun x fs' => ((c ∨ flats ds = true) ∨ ffl fs' = true) ∧ B x (S1.set i (.ob a dx C' fs')))
  | _ => False) B
theorem snd_meth [Tbs] {C : Addr} {i j n : Nat} {m : Str} {sp : SpO} {ta : TA} {wa : WLs} (a : At X W k) (sa : SndA W ta n wa) : Snd W (tMethW C m (spOfO C X.mg n sp) (WE W.w) (tVar i) ta) (wMeth C i m sp wa) := by
  intro D0 S σ H o A B Q E hw kk kx
  obtain ⟨⟨oa, dx, fs0, hs0, hl0⟩, hw⟩ := hw
  obtain ⟨ws, q1, q2, q3, ob, rf⟩ := E.obAt hs0
  have hn : ws.lookup m = none := by
    have := (rf.look m).1
    rw [hl0] at this
    cases e : ws.lookup m with
    | none => rfl
    | some _ => rw [e] at this; cases this
  refine ⟨.ref oa, q1, oa, dx, ws, rfl, ob.i, hn, ?_⟩
  refine sa D0 S σ H o _ B _ E hw (fun ds c S1 vs H1 hl h1 E1 x1 V1 => ?_) kx
  split at h1
  · rename_i a' dx' C' fs hs1
    obtain ⟨rfl, hsp⟩ := h1
    obtain ⟨ws1, r1, _⟩ := E1.obAt hs1
    rw [q1] at r1
    cases r1
    exact snd_ob X.mg E1 hs1 V1 hl hsp (fun d c' S' v H' hd E' x' V' => kk d c' S' v H' hd E' (x1.trans x') V') fun x S' cls dd H' hx E' x' ok => kx x S' cls dd H' hx E' (x1.trans x') (by rw [a.mq]; exact ok)
  · exact h1.elim
theorem se_meth [Tbs] {C : Addr} {j n : Nat} (i : Nat) {sp : SpO} {x m : Str} {p apos : Pos} {e : Expr} {es : List Expr} {wa : WLs} (a : At X W k) (c : Cls X.K C) (F : MDef X.prog X.w X.K X.mg X.base j C m (n + 1) (spOfO C X.mg n sp)) (hj : j ≤ k) (ha : SA X W (e :: es) wa)
    (hN : X.N[i]? = some x := by rfl) (hv : Vis X.env.scope x := by first | exact Or.inl rfl | exact Or.inr (Or.inl rfl) | exact Or.inr (Or.inr rfl)) (hd : (x == ("__debug__" : Str)) = false := by decide) (hcd : (x == ("__classdict__" : Str)) = false := by decide)
    (hst : starEach (e :: es) X.env = (false, eval e X.env) :: starEach es X.env := by rfl) (hpl : (backTo pos (starEach es X.env)).any (·.1) = false := by rfl) (hn : (e :: es).length = n := by rfl) {pl : Sem Bool}
    (ht : eval (.Call (.Attribute (.Name x p) m apos) (e :: es) [] pos) X.env = (do
      let ov ← eval (.Name x p) X.env
      standAt apos.atName
      let (f, first) ← holding [ov] (getMethod ov m pl)
      callWith pos f first (backTo pos (starEach (e :: es) X.env)) (backToKw pos (keywordEach [] X.env))) := by rfl) :
    SE X W (.Call (.Attribute (.Name x p) m apos) (e :: es) [] pos) (wMeth C i m sp wa) := by
  obtain ⟨ta, pa, sa⟩ := ha.ex
  subst hn
  obtain ⟨f, fd, ps, G, hm, hb, hps⟩ := F.ex
  exact ⟨_, pe_methW (pl := pl) (pe_var hN hv hd hcd) c hm G (a.room.mono hj) hb a.tk pa hst hpl ht, snd_meth (j := j) a sa⟩
theorem se_meth0 [Tbs] {C : Addr} {j : Nat} (i : Nat) {sp : SpO} {x m : Str} {p apos : Pos} (a : At X W k) (c : Cls X.K C) (F : MDef X.prog X.w X.K X.mg X.base j C m 1 (spOfO C X.mg 0 sp)) (hj : j ≤ k)
    (hN : X.N[i]? = some x := by rfl) (hv : Vis X.env.scope x := by first | exact Or.inl rfl | exact Or.inr (Or.inl rfl) | exact Or.inr (Or.inr rfl)) (hd : (x == ("__debug__" : Str)) = false := by decide) (hcd : (x == ("__classdict__" : Str)) = false := by decide) {pl : Sem Bool}
    (ht : eval (.Call (.Attribute (.Name x p) m apos) [] [] pos) X.env = (do
      let ov ← eval (.Name x p) X.env
      standAt apos.atName
      let (f, first) ← holding [ov] (getMethod ov m pl)
      callWith pos f first (backTo pos (starEach [] X.env)) (backToKw pos (keywordEach [] X.env))) := by rfl) :
    SE X W (.Call (.Attribute (.Name x p) m apos) [] [] pos) (wMeth C i m sp wNil) := by
  obtain ⟨ta, pa, sa⟩ := (sa_nil (X := X) (W := W)).ex
  obtain ⟨f, fd, ps, G, hm, hb, hps⟩ := F.ex
  refine ⟨_, pe_methW0 (pl := pl) (pe_var hN hv hd hcd) c hm G (a.room.mono hj) hb a.tk ht, snd_meth (j := j) a fun D0 S σ H o A B Q E hw k kx => k _ _ _ _ H rfl hw E (XE.refl o H) ⟨.nil, fun _ => .nil⟩⟩
theorem pass_no {X : Cx} {P : Program} {w : World} : Passes (L2.CX P w) X (fun _ _ _ => False) := fun _ _ _ _ _ _ _ h => by
  obtain ⟨_, _, _, _, _, _, _, _, _, _, _, _, h⟩ := h
  exact h.elim
/-- o.p, a property -/
def wProp (C : Addr) (i : Nat) (sp : SpO) : WEx := fun S A _ => match S[i]? with
  | some (.ob a dx C' fs) => C' = C ∧ sp fs [] (fun d fs' => ((True ∨ flats [] = true) ∨ ffl fs' = true) ∧ A d (True ∨ flats [] = true) (S.set i (.ob a dx C' fs'))) (fun _ fs' => ((True ∨ flats [] = true) ∨ ffl fs' = true) ∧ False)
  | _ => False
structure PDef (P : Program) (w : World) (K : PySem.W.Frag) (mg : Str → Option Value) (base : Heap) (k : Nat) (C : Addr) (m : Str) (sp : Sp) : Prop where
  ex : ∃ (p g : Addr) (fd : FuncData) (ps : List Str), FnOk P w K mg base (L2.CX P w) k g fd ps sp ∧ PropOf K C m p g ∧ Binds K fd ps []
theorem se_prop [Tbs] {C : Addr} {j : Nat} (i : Nat) {sp : SpO} {x f : Str} {p : Pos} (a : At X W k) (c : Cls X.K C) (F : PDef X.prog X.w X.K X.mg X.base j C f (spOfO C X.mg 0 sp)) (hj : j + 1 ≤ k)
    (hN : X.N[i]? = some x := by rfl) (hv : Vis X.env.scope x := by first | exact Or.inl rfl | exact Or.inr (Or.inl rfl) | exact Or.inr (Or.inr rfl)) (hd : (x == ("__debug__" : Str)) = false := by decide) (hcd : (x == ("__classdict__" : Str)) = false := by decide)
    (hab : attributeBase (.Name x p) f X.env (eval (.Name x p) X.env) = eval (.Name x p) X.env := by rfl) : SE X W (.Attribute (.Name x p) f pos) (wProp C i sp) := by
  obtain ⟨pp, g, fd, ps, G, hp, hb⟩ := F.ex
  refine ⟨_, pe_prop (E := fun _ _ _ => False) (dvs := []) (pe_var hN hv hd hcd) c hp G (a.room.mono hj) hb .nil pass_no hab, ?_⟩
  intro D0 S σ H o A B Q E hw kk kx
  unfold wProp at hw
  split at hw
  · rename_i oa dx C' fs hs
    obtain ⟨rfl, hsp⟩ := hw
    obtain ⟨ws, q1, q2, q3, ob, rf⟩ := E.obAt hs
    exact ⟨.ref oa, q1, oa, dx, ws, rfl, ob.i, snd_ob (c := True) (A := A) (B := noX) X.mg E hs ⟨.nil, fun _ => .nil⟩ rfl hsp (fun d c' S' v H' hd E' x' V' => kk d c' S' v H' hd E' x' V') fun _ _ _ _ _ h => h.elim⟩
  · exact hw.elim
/-- len(o) -/
theorem cr_lenO {C f : Addr} {fd : FuncData} {ps : List Str} {sp : Sp} {j : Nat} (hs : PySem.W.findIn X.K (.ref C) "__len__" = some (some (.ref f))) (hf : PySem.W.isFn X.K (.ref f) = true) (F : FnOk X.prog X.w X.K X.mg X.base (L2.CX X.prog X.w) j f fd ps sp) (hb : Binds X.K fd ps []) (hr : Room (j + 1) X.A) :
    CallR X (.builtin "len") (fun vs H Q => ∃ a dx ws, vs = [.ref a] ∧ H a = some (.ins C dx ws) ∧ sp [.ref a] H (fun v H' => ∃ n : Int, v = .int n ∧ 0 ≤ n ∧ n < 2 ^ 63 ∧ Q v H') fun _ _ _ => False) := by
  intro pins s σ H xs us Q I r h
  obtain ⟨a, dx, ws, rfl, ea, q⟩ := h
  rw [Vals.ref1 r]
  obtain ⟨mA, O, _, _, _, _⟩ := ins_get I.hok ea
  obtain ⟨od, J, _⟩ := O.look
  obtain ⟨m, hF⟩ := I.fr
  have hl : ([Value.ref a] ++ ([] : List Value)).length = ps.length := by rw [← F.len _ _ _ _ q]; rfl
  refine PySem.W.len_K hF I.ok.mod.kin J hs hf (wpAny_call (codeAny_mono (F.run X.A.in1 X.stack s H ⟨[.ref a], []⟩ [.ref a] [.ref a] _ _ hr.in1 I.env0.in1 (hb _ [.ref a] I.kIn hl) (.cons rfl .nil) q) fun r s' hq => ?_))
  cases r with
  | error er => exact False.elim (pass_no (X := X.nox) pins σ H s er s' (I.wish _) hq)
  | ok fl =>
    cases fl with
    | ret u =>
      obtain ⟨v, H', I3, rv, n, ev, n0, n1, q3⟩ := I.after hq
      subst ev
      obtain ⟨t, rfl⟩ := rv
      exact ⟨⟨n0, n1⟩, .int n, H', I3.tok _, ⟨_, rfl⟩, q3⟩
    | next => exact False.elim hq
    | brk => exact False.elim hq
    | cont => exact False.elim hq

def wLenO (C : Addr) (i : Nat) (sp : SpO) : WEx := fun S A _ => match S[i]? with
  | some (.ob a dx C' fs) => C' = C ∧ sp fs [] (fun d fs' => ((True ∨ flats [] = true) ∨ ffl fs' = true) ∧ match d with
    | .int n => 0 ≤ n ∧ n < 2 ^ 63 ∧ A (.int n) True (S.set i (.ob a dx C' fs'))
    | _ => False) (fun _ fs' => ((True ∨ flats [] = true) ∨ ffl fs' = true) ∧ False)
  | _ => False
theorem se_lenO [Tbs] {C : Addr} {j : Nat} (i : Nat) {sp : SpO} {x : Str} {p q : Pos} (a : At X W k) (F : MDef X.prog X.w X.K X.mg X.base j C "__len__" 1 (spOfO C X.mg 0 sp)) (hj : j + 1 ≤ k) (hm : X.mg "len" = none) (hv0 : bootBuiltins "len" = some (.builtin "len"))
    (hN : X.N[i]? = some x := by rfl) (hv : Vis X.env.scope x := by first | exact Or.inl rfl | exact Or.inr (Or.inl rfl) | exact Or.inr (Or.inr rfl)) (hd : (x == ("__debug__" : Str)) = false := by decide) (hcd : (x == ("__classdict__" : Str)) = false := by decide) (hg : Gl X "len" := by rfl)
    (hst : starEach [.Name x q] X.env = (false, eval (.Name x q) X.env) :: starEach [] X.env := by rfl) (hpl : (backTo pos (starEach [] X.env)).any (·.1) = false := by rfl) : SE X W (.Call (.Name "len" p) [.Name x q] [] pos) (wLenO C i sp) := by
  obtain ⟨f, fd, ps, G, hme, hb, hps⟩ := F.ex
  refine ⟨_, pe_callB (cr_lenO hme.at_ hme.fn G hb (a.room.mono hj)) hg hm hv0 (pa_cons (pe_var hN hv hd hcd) pa_nil hst) (by decide) (by decide) hst hpl, ?_⟩
  intro D0 S σ H o A B Q E hw kk kx
  unfold wLenO at hw
  split at hw
  · rename_i oa dx C' fs hs
    obtain ⟨rfl, hsp⟩ := hw
    obtain ⟨ws, q1, q2, q3, ob, rf⟩ := E.obAt hs
    refine ⟨.ref oa, q1, oa, dx, ws, rfl, ob.i, snd_ob (c := True) (A := fun d _ S' => match d with
      | .int n => 0 ≤ n ∧ n < 2 ^ 63 ∧ A (.int n) True S'
      | _ => False) (B := noX) X.mg E hs ⟨.nil, fun _ => .nil⟩ rfl hsp (fun d c' S' v H' hd E' x' V' => ?_) fun _ _ _ _ _ h => h.elim⟩
    split at hd
    · obtain ⟨n0, n1, hd⟩ := hd
      cases V'.1
      exact ⟨_, rfl, n0, n1, kk _ True S' _ H' hd E' x' (Val.of (.int _))⟩
    · exact hd.elim
  · exact hw.elim
/-- f(o, ..) -/
def wCallO (C : Addr) (i : Nat) (sp : SpO) (wa : WLs) : WEx := fun S A B => (∃ a dx fs0, S[i]? = some (.ob a dx C fs0)) ∧ wa S (fun ds c S1 => match S1[i]? with
  | some (.ob a dx C' fs) => C' = C ∧ sp fs ds (fun d fs' => ((c ∨ flats ds = true) ∨ ffl fs' = true) ∧ A d (c ∨ flats ds = true) (S1.set i (.ob a dx C' fs'))) (fun x fs' => ((c ∨ flats ds = true) ∨ ffl fs' = true) ∧ B x (S1.set i (.ob a dx C' fs')))
  | _ => False) B
theorem se_callO [Tbs] {C : Addr} {j n : Nat} (i : Nat) {sp : SpO} {x y : Str} {p q : Pos} {es : List Expr} {wa : WLs} (a : At X W k) (F : Def X.prog X.w X.K X.mg X.base j y (n + 1) (spOfO C X.mg n sp)) (hj : j ≤ k) (ha : SA X W es wa) (hN : X.N[i]? = some x := by rfl) (hv : Vis X.env.scope x := by first | exact Or.inl rfl | exact Or.inr (Or.inl rfl) | exact Or.inr (Or.inr rfl))
    (hd : (x == ("__debug__" : Str)) = false := by decide) (hcd : (x == ("__classdict__" : Str)) = false := by decide) (hg : Gl X y := by rfl) (hdb : (y == ("__debug__" : Str)) = false := by decide)
    (hst : starEach (.Name x q :: es) X.env = (false, eval (.Name x q) X.env) :: starEach es X.env := by rfl) (hpl : (backTo pos (starEach es X.env)).any (·.1) = false := by rfl) (hn : es.length = n := by rfl) :
    SE X W (.Call (.Name y p) (.Name x q :: es) [] pos) (wCallO C i sp wa) := by
  obtain ⟨ta, pa, sa⟩ := ha.ex
  subst hn
  obtain ⟨f, fd, ps, G, hm, hk, hb, hps⟩ := F.ex
  refine ⟨_, pe_callS G (a.room.mono hj) hg hm hk hb a.tk (pa_cons (pe_var hN hv hd hcd) pa hst) hdb hst hpl, ?_⟩
  intro D0 S σ H o A B Q E hw kk kx
  obtain ⟨⟨oa, dx, fs0, hs0⟩, hw⟩ := hw
  obtain ⟨ws, q1, q2, q3, ob, rf⟩ := E.obAt hs0
  refine ⟨.ref oa, q1, sa D0 S σ H o _ B _ E hw (fun ds c S1 vs H1 hl h1 E1 x1 V1 => ?_) kx⟩
  split at h1
  · rename_i a' dx' C' fs hs1
    obtain ⟨rfl, hsp⟩ := h1
    obtain ⟨ws1, r1, _⟩ := E1.obAt hs1
    rw [q1] at r1
    cases r1
    exact snd_ob X.mg E1 hs1 V1 hl hsp (fun d c' S' v H' hd E' x' V' => kk d c' S' v H' hd E' (x1.trans x') V') fun x S' cls dd H' hx E' x' ok => kx x S' cls dd H' hx E' (x1.trans x') (by rw [a.mq]; exact ok)
  · exact h1.elim
end
theorem env_startO [Tbs] {D0 : Addr → Bool} {N : List Str} {us : List V} {ds : List PyData} {H : Hp} {a dx C : Addr} {ws : List (Str × V)} {fs : Fs} (tb : TbOk H) (ob : ObAt H a dx C ws) (d1 : D0 a = false) (d2 : D0 dx = false) (hd : ∀ b, D0 b = true → ∃ u, co H b = some u ∧ isTup u = false)
    (rf : RpF (vw D0 (orng a dx 0 fun _ => none) (co H)) ws fs) (r : RpAll (vw D0 (orng a dx 0 fun _ => none) (co H)) us ds) (hN : 1 ≤ N.length) :
    Env D0 (.ob a dx C fs :: startS (N.length - 1) ds) (L2.start N (.ref a :: us)) H (orng a dx 0 fun _ => none) := by
  have r1 : co H a = some (.ins C dx ws) := co_of ob.i
  have r2 : co H dx = some (.own a) := co_of ob.d
  have es : L2.start N (.ref a :: us) = some (.ref a) :: (us.map some ++ List.replicate (N.length - 1 - us.length) none) := by
    unfold L2.start
    rw [List.map_cons, List.cons_append, List.length_cons]
    have e : N.length - (us.length + 1) = N.length - 1 - us.length := by omega
    rw [e]
  refine ⟨?_, fun b p e => ?_, hd, fun i s e => ?_, fun b p u e h => ?_, tb⟩
  · rw [es]
    unfold startS
    simp [r.length]
  · unfold orng at e
    split at e
    · rename_i hb
      rcases hb with hb | hb
      · subst hb; exact ⟨d1, _, r1, rfl⟩
      · subst hb; exact ⟨d2, _, r2, rfl⟩
    · cases e
  · rw [es]
    cases i with
    | zero =>
      cases e
      exact ⟨ws, rfl, if_pos (.inl rfl), if_pos (.inr rfl), ob.ne, r1, r2, rf⟩
    | succ i =>
      rw [List.getElem?_cons_succ] at e ⊢
      unfold startS at e
      by_cases hi : i < ds.length
      · rw [List.getElem?_append_left (by simpa using hi), List.getElem?_map, List.getElem?_eq_getElem hi] at e
        cases e
        obtain ⟨v, h1, h2⟩ := r.get (List.getElem?_eq_getElem hi)
        refine ⟨v, ?_, h2⟩
        rw [List.getElem?_append_left (by simpa [r.length] using hi), List.getElem?_map, h1]
        rfl
      · rw [List.getElem?_append_right (by simpa using hi), List.getElem?_replicate] at e
        split at e
        · cases e
          trivial
        · cases e
  · unfold orng at e
    split at e
    · rename_i hb
      rcases hb with hb | hb
      · subst hb; rw [ob.i] at h; cases h; rfl
      · subst hb; rw [ob.d] at h; cases h; rfl
    · cases e
section
variable {P : Program} {w : World} {K : PySem.W.Frag} {mg : Str → Option Value} {base : Heap}
/-- THE RULE for a def (a method) whose first parameter is an object of the class at C -/
theorem def_okO [Tbs] {C : Addr} {x q : Str} {st : Stmt} {f : Addr} {fd : FuncData} {N ps : List Str} {k : Nat} {sp : SpO} (F : Fun K x q st f fd) (S : FnScope N ps (defScope st)) (hp : 1 ≤ ps.length) (hN : 1 ≤ N.length)
    (hb : ∀ (cdv : Value) (A : Around) (outer : List PySem.Env) (s : Shared) (H : Hp) (E : XK), At (cxOf (L2.CX P w) P w K mg base N q (defScope st) f cdv A outer s H E) ⟨mg, fun cls d _ H' => E cls d H'⟩ k →
      ∃ wb, SSs (cxOf (L2.CX P w) P w K mg base N q (defScope st) f cdv A outer s H E) ⟨mg, fun cls d _ H' => E cls d H'⟩ (defBody st) wb ∧
        ∀ fs ds A B a dx, ds.length = ps.length - 1 → sp fs ds A B → wb (.ob a dx C fs :: startS (N.length - 1) ds) ⟨fun S => ∃ fs', S[0]? = some (.ob a dx C fs') ∧ A .none fs', fun d _ S => ∃ fs', S[0]? = some (.ob a dx C fs') ∧ A d fs', fun _ => False, fun _ => False, fun x S => ∃ fs', S[0]? = some (.ob a dx C fs') ∧ B x fs'⟩) :
    FnOk P w K mg base (L2.CX P w) (k + 1) f fd ps (spOfO C mg (ps.length - 1) sp) := by
  refine F.okX S (fun vs H Q E h => by rw [spOfO_len h]; omega) (fun cdv A outer s H vs Q E hr h => ?_)
  obtain ⟨tb, a, dx, ws, fs, us, ds, D0, A', B', rfl, ob, hl, d1, d2, hd, rf, r, hsp, hA, hB⟩ := h
  have at_ : At (cxOf (L2.CX P w) P w K mg base N q (defScope st) f cdv A outer s H E) ⟨mg, fun cls d _ H' => E cls d H'⟩ k := ⟨hr, rfl, takes_of rfl rfl rfl rfl, rfl, S.nd, passes_of rfl⟩
  obtain ⟨wb, hp, hw⟩ := hb cdv A outer s H E at_
  obtain ⟨t, pt, st'⟩ := hp.ex
  refine ⟨t, pt, ?_⟩
  have bt : ∀ {S' : Slots} {σ' : St} {H' : Hp} {o' : Ow}, Env D0 S' σ' H' o' → Fr (orng a dx 0 fun _ => none) H o' H' → ButT a dx H H' := fun {S' σ' H' o'} E' f => ⟨fun b u n1 n2 e n => (f b u (if_neg (fun z => z.elim n1 n2)) e n).1, fun _ => E'.tb⟩
  have ends : ∀ {S' : Slots} {σ' : St} {H' : Hp} {o' : Ow} {fs' : Fs}, S'[0]? = some (.ob a dx C fs') → Env D0 S' σ' H' o' → ∃ ws', ObAt H' a dx C ws' ∧ RpF (vw D0 (orng a dx 0 fun _ => none) (co H')) ws' fs' ∧ ∀ {v : V} {d : PyData}, Rp (vt D0 o' (co H')) v d → Rp (vw D0 (orng a dx 0 fun _ => none) (co H')) v d := fun {S' σ' H' o' fs'} hs E' => by
    obtain ⟨ws', k1, k2, k3, k4, k5⟩ := E'.obAt hs
    have le : Le (vt D0 o' (co H')) (vw D0 (orng a dx 0 fun _ => none) (co H')) := fun b u e => by
      unfold vt at e
      unfold vw orng
      split at e
      · cases e
      · rename_i hn
        have n1 : b ≠ a := fun z => hn (by rw [z, k2]; simp [mutO])
        have n2 : b ≠ dx := fun z => hn (by rw [z, k3]; simp [mutO])
        have n3 : D0 b = false := by
          cases q : D0 b with
          | false => rfl
          | true => exact absurd (by rw [q, Bool.true_or]) hn
        have n4 : (if b = a ∨ b = dx then some (0, true) else (none : Option (Nat × Bool))) = none := if_neg (fun z => z.elim n1 n2)
        show (if (D0 b || (if b = a ∨ b = dx then some (0, true) else (none : Option (Nat × Bool))).isSome) = true then none else co H' b) = some u
        rw [n3, n4]
        exact e
    exact ⟨ws', k4, k5.mono (vw_le_vt.trans le), fun {v d} q => q.mono le⟩
  refine st' D0 _ _ H _ _ _ (env_startO tb ob d1 d2 hd rf r hN) (hw fs ds A' B' a dx hl hsp)
    ⟨fun S' σ' H' o' h E' f => ?_, fun _ _ _ _ h => h.elim, fun _ _ _ _ h => h.elim, fun d c' S' v σ' H' o' h E' f V => ?_, fun x S' σ' cls dd H' o' h E' f ok => ?_⟩
  · obtain ⟨fs', h1, h2⟩ := h
    obtain ⟨ws', e1, e2, e3⟩ := ends h1 E'
    exact hA _ _ _ _ _ h2 (bt E' f) e1 e2 .non
  · obtain ⟨fs', h1, h2⟩ := h
    obtain ⟨ws', e1, e2, e3⟩ := ends h1 E'
    exact hA _ _ _ _ _ h2 (bt E' f) e1 e2 (e3 V.1)
  · obtain ⟨fs', h1, h2⟩ := h
    obtain ⟨ws', e1, e2, e3⟩ := ends h1 E'
    exact hB _ _ _ _ _ _ h2 (bt E' f) e1 e2 ok
end
end Pu

namespace Pu
open PySem L2

/-! ### new objects -/
abbrev WB := Slots → (Fs → Slots → Prop) → EK → Prop
def obHp (H : Hp) (p dx C : Addr) (ws : List (Str × V)) : Hp := upd (upd H dx (.own p)) p (.ins C dx ws)
def SndB [Tbs] (W : WM) (C : Addr) (t : TE) (w : WB) : Prop := ∀ (D0 : Addr → Bool) (S : Slots) (σ : St) (H : Hp) (o : Ow) (A : Fs → Slots → Prop) (B : EK) (Q : VK), Env D0 S σ H o → w S A B →
  (∀ fs S' p dx ws H1, A fs S' → Env D0 S' σ H1 o → XE o H H1 → H1 p = none → H1 dx = none → p ≠ dx → RpF (vw D0 o (co H1)) ws fs → Q (.ref p) (obHp H1 p dx C ws)) → Xw W D0 σ o H B → t σ H Q
structure SB [Tbs] (X : Cx) (W : WM) (C : Addr) (e : Expr) (w : WB) : Prop where
  ex : ∃ t, PE X e t ∧ SndB W C t w
/-- the heap less an object and its attributes -/
def rm2 (H : Hp) (p dx : Addr) : Hp := rm (rm H p) dx
theorem rm2_ne {H : Hp} {p dx b : Addr} (h1 : b ≠ p) (h2 : b ≠ dx) : rm2 H p dx b = H b := by unfold rm2; rw [rm_ne h2, rm_ne h1]
theorem rm2_p {H : Hp} {p dx : Addr} (h : p ≠ dx) : rm2 H p dx p = none := by unfold rm2; rw [rm_ne h]; exact rm_at
theorem rm2_d {H : Hp} {p dx : Addr} : rm2 H p dx dx = none := rm_at
theorem ob_rm2 {H : Hp} {p dx C : Addr} {ws : List (Str × V)} (o : ObAt H p dx C ws) : obHp (rm2 H p dx) p dx C ws = H := by
  funext b
  unfold obHp
  by_cases n1 : b = p
  · rw [n1, upd_same, o.i]
  · rw [upd_ne n1]
    by_cases n2 : b = dx
    · rw [n2, upd_same, o.d]
    · rw [upd_ne n2, rm2_ne n1 n2]
theorem obAt_hp {H : Hp} {p dx C : Addr} {ws : List (Str × V)} (h : p ≠ dx) : ObAt (obHp H p dx C ws) p dx C ws := ⟨h, upd_same, by unfold obHp; rw [upd_ne (Ne.symm h), upd_same]⟩
theorem obHp_ne {H : Hp} {p dx C b : Addr} {ws : List (Str × V)} (h1 : b ≠ p) (h2 : b ≠ dx) : obHp H p dx C ws b = H b := by unfold obHp; rw [upd_ne h1, upd_ne h2]
theorem co_eq {H H' : Hp} {b : Addr} (h : H b = H' b) : co H b = co H' b := by unfold co; rw [h]
/-- the views of a callee that is handed a new object -/
theorem vw_nob {D0 : Addr → Bool} {o : Ow} {H H' : Hp} {p dx : Addr} {i : Nat} (hp : H p = none) (hd : H dx = none) (he : ∀ b, b ≠ p → b ≠ dx → H' b = H b) : vw D0 (orng p dx i o) (co H') = vw D0 o (co H) := by
  funext b
  unfold vw
  by_cases n1 : b = p
  · subst n1
    have e1 : orng b dx i o b = some (i, true) := if_pos (.inl rfl)
    rw [e1, if_pos (by simp)]
    split
    · rfl
    · exact (co_non hp).symm
  · by_cases n2 : b = dx
    · subst n2
      have e1 : orng p b i o b = some (i, true) := if_pos (.inr rfl)
      rw [e1, if_pos (by simp)]
      split
      · rfl
      · exact (co_non hd).symm
    · have e1 : orng p dx i o b = o b := if_neg (fun z => z.elim n1 n2)
      rw [e1, co_eq (he b n1 n2)]
theorem vw_call {D0 : Addr → Bool} {o : Ow} {C : Hp} {p dx : Addr} (hp : o p = none) (hd : o dx = none) : vw (fun b => D0 b || (o b).isSome) (orng p dx 0 fun _ => none) C = vw D0 (orng p dx 0 o) C := by
  funext b
  unfold vw orng
  by_cases n1 : b = p
  · subst n1; simp
  · by_cases n2 : b = dx
    · subst n2; simp
    · simp [n1, n2]
section
variable {X : Cx} {W : WM} {k : Nat} {pos : Pos}
def tMakeW (C : Addr) (sp : Sp) (E : St → XK) (t : TA) : TE := fun σ H Q => t σ H fun vs H1 => ∀ x dx, H1 x = none → H1 dx = none → dx ≠ x → sp (.ref x :: vs) (upd (upd H1 dx (.own x)) x (.ins C dx [])) (fun v H2 => v = .non ∧ Q (.ref x) H2) (E σ)
theorem run_makeW {C f : Addr} {fd : FuncData} {ps : List Str} {sp : Sp} {E : XK} {j : Nat} {pins : List (Addr × Obj)} {σ : St} {H : Hp} {s : Shared} {Q : VK} {us : List Value} {vs : List V} (M : Mk X.K C f) (F : FnOk X.prog X.w X.K X.mg X.base (L2.CX X.prog X.w) j f fd ps sp) (hr : Room (j + 1) X.A) (hb : Binds X.K fd ps [])
    (hx : PassesAt (L2.CX X.prog X.w) X σ E) (I : L2.Inv X pins σ H s) (r : Vals vs us)
    (h : ∀ x dx, H x = none → H dx = none → dx ≠ x → sp (.ref x :: vs) (upd (upd H dx (.own x)) x (.ins C dx [])) (fun v H2 => v = .non ∧ Q (.ref x) H2) E) :
    wpAny (model X.prog X.w) X.A (call (.ref C) us) (EP X pins σ Q) X.xe s := by
  have hq := h (s.heap.objs.size + 1) s.heap.objs.size (I.hok.fresh (Nat.le_succ _)) (I.hok.fresh (Nat.le_refl _)) (Nat.ne_of_lt (Nat.lt_succ_self _))
  have I2 := L2.Inv.made (C := C) I
  have r2 : Vals (V.ref (s.heap.objs.size + 1) :: vs) (Value.ref (s.heap.objs.size + 1) :: us) := .cons rfl r
  have hl : (Value.ref (s.heap.objs.size + 1) :: us).length = ps.length := by
    have e := r2.length
    rw [F.len _ _ _ _ hq] at e
    exact e.symm
  have b := hb _ (Value.ref (s.heap.objs.size + 1) :: us) I2.kIn (by rw [List.append_nil]; exact hl)
  rw [List.append_nil] at b
  refine wpAny_call (make_map (f := f) I.kIn M.makes M.init (beq_iff_eq.mp M.fn) (codeAny_mono (F.run _ X.stack _ _ ⟨Value.ref (s.heap.objs.size + 1) :: us, []⟩ (Value.ref (s.heap.objs.size + 1) :: us) _ _ E (hr.make C us [])
    (I2.env0.make C us []) b r2 hq) fun r s' hq' => ?_))
  cases r with
  | error e => exact hx pins _ _ e s' I2 hq'
  | ok fl =>
    cases fl with
    | ret u =>
      obtain ⟨v, H', I3, rv, ev, q3⟩ := I2.after hq'
      subst ev
      exact ⟨rv, ⟨V.ref (s.heap.objs.size + 1), H', I3, rfl, q3⟩⟩
    | next => exact False.elim hq'
    | brk => exact False.elim hq'
    | cont => exact False.elim hq'
theorem pe_makeW {C f : Addr} {fd : FuncData} {ps : List Str} {sp : Sp} {E : St → XK} {j : Nat} {x : Str} {p : Pos} {e : Expr} {es : List Expr} {t : TA} (M : Mk X.K C f) (F : FnOk X.prog X.w X.K X.mg X.base (L2.CX X.prog X.w) j f fd ps sp) (hr : Room (j + 1) X.A) (hg : Gl X x) (hm : X.mg x = some (.ref C)) (hb : Binds X.K fd ps []) (hx : ∀ σ, PassesAt (L2.CX X.prog X.w) X σ (E σ))
    (ha : PA X (e :: es) t) (hdb : (x == ("__debug__" : Str)) = false := by decide) (he : starEach (e :: es) X.env = (false, eval e X.env) :: starEach es X.env := by rfl) (hpl : (backTo pos (starEach es X.env)).any (·.1) = false := by rfl) :
    PE X (.Call (.Name x p) (e :: es) [] pos) (tMakeW C sp E t) := by
  refine ⟨fun pins s σ H Q I h => ?_⟩
  refine wpAny_Call_Name_kw (ld_glob I hg hm ?_ hdb)
  refine PySem.W.callWith_K (h₀ := X.base) I.ok.mod.kin M.kp (thn (ha.run pos pins s σ H _ I h) fun us s1 ⟨vs, H1, I1, r, q⟩ => ⟨I1.kIn, ?_⟩) he hpl
  exact run_makeW M F hr hb (hx σ) I1 r q
/-- the class x, its __init__ -/
structure CDef (P : Program) (w : World) (K : PySem.W.Frag) (mg : Str → Option Value) (base : Heap) (k : Nat) (C : Addr) (x : Str) (n : Nat) (sp : Sp) : Prop where
  ex : ∃ (f : Addr) (fd : FuncData) (ps : List Str), FnOk P w K mg base (L2.CX P w) k f fd ps sp ∧ mg x = some (.ref C) ∧ Mk K C f ∧ Binds K fd ps [] ∧ ps.length = n
def wMake (sp : SpO) (wa : WLs) : WB := fun S A B => wa S (fun ds c S1 => (c ∨ flats ds = true) ∧ sp [] ds (fun d fs' => d = .none ∧ A fs' S1) (fun x _ => B x S1)) B
theorem sb_make [Tbs] {C : Addr} {j n : Nat} {sp : SpO} {x : Str} {p : Pos} {e : Expr} {es : List Expr} {wa : WLs} (a : At X W k) (F : CDef X.prog X.w X.K X.mg X.base j C x (n + 1) (spOfO C X.mg n sp)) (hj : j + 1 ≤ k) (ha : SA X W (e :: es) wa)
    (hg : Gl X x := by rfl) (hdb : (x == ("__debug__" : Str)) = false := by decide) (he : starEach (e :: es) X.env = (false, eval e X.env) :: starEach es X.env := by rfl) (hpl : (backTo pos (starEach es X.env)).any (·.1) = false := by rfl) (hn : (e :: es).length = n := by rfl) :
    SB X W C (.Call (.Name x p) (e :: es) [] pos) (wMake sp wa) := by
  obtain ⟨ta, pa, sa⟩ := ha.ex
  subst hn
  obtain ⟨f, fd, ps, G, hm, M, hb, hps⟩ := F.ex
  refine ⟨_, pe_makeW M G (a.room.mono hj) hg hm hb a.tk pa hdb he hpl, ?_⟩
  intro D0 S σ H o A B Q E hw kk kx
  refine sa D0 S σ H o _ B _ E hw (fun ds c S1 vs H1 hl h1 E1 x1 V1 => ?_) kx
  intro x dx hx hdx hne
  obtain ⟨hc, hsp⟩ := h1
  have rv := V1.clean E1 hc
  have nx := E1.new hx
  have nd := E1.new hdx
  have hne' : x ≠ dx := Ne.symm hne
  have he1 : ∀ b, b ≠ x → b ≠ dx → obHp H1 x dx C [] b = H1 b := fun b n1 n2 => obHp_ne n1 n2
  have view : vw (fun b => D0 b || (o b).isSome) (orng x dx 0 fun _ => none) (co (obHp H1 x dx C [])) = vw D0 o (co H1) := by
    rw [vw_call nx.2 nd.2]
    exact vw_nob hx hdx he1
  refine ⟨E1.tb.ext fun b u e => by rw [upd_ne (ne_of_none e hx), upd_ne (ne_of_none e hdx)]; exact e, x, dx, [], [], vs, ds, fun b => D0 b || (o b).isSome, fun d fs' => d = .none ∧ A fs' S1, fun y _ => B y S1, rfl, obAt_hp hne', hl, by simp [nx.1, nx.2], by simp [nd.1, nd.2], fun b hb => ?_, .nil, by rw [show upd (upd H1 dx (.own x)) x (.ins C dx []) = obHp H1 x dx C [] from rfl, view]; exact rv, hsp, fun d fs' ws' v H' hd bt oa rf r => ?_, fun y fs' ws' cls dd H' hy bt oa rf ok => ?_⟩
  · obtain ⟨u, h2, h3⟩ := E1.deadV b hb
    refine ⟨u, ?_, h3⟩
    have n1 : b ≠ x := fun z => by rw [z, co_non hx] at h2; cases h2
    have n2 : b ≠ dx := fun z => by rw [z, co_non hdx] at h2; cases h2
    show co (obHp H1 x dx C []) b = some u
    rw [co_eq (he1 b n1 n2)]
    exact h2
  · obtain ⟨rfl, hA⟩ := hd
    cases r
    refine ⟨rfl, ?_⟩
    have le : Lh H1 (rm2 H' x dx) := ⟨fun b u e nt => by
      have n1 : b ≠ x := ne_of_none e hx
      have n2 : b ≠ dx := ne_of_none e hdx
      rw [rm2_ne n1 n2]
      exact bt.k b u n1 n2 (by rw [show upd (upd H1 dx (.own x)) x (.ins C dx []) = obHp H1 x dx C [] from rfl, he1 b n1 n2]; exact e) nt, fun t =>
      (bt.tb (t.ext fun b u e => by rw [upd_ne (ne_of_none e hx), upd_ne (ne_of_none e hdx)]; exact e)).but fun b u e y => by
        rw [rm2_ne (fun z => by rw [z, oa.i] at e; cases e; cases y) (fun z => by rw [z, oa.d] at e; cases e; cases y)]
        exact e⟩
    have view2 : vw (fun b => D0 b || (o b).isSome) (orng x dx 0 fun _ => none) (co H') = vw D0 o (co (rm2 H' x dx)) := by
      rw [vw_call nx.2 nd.2]
      exact vw_nob (rm2_p hne') rm2_d fun b n1 n2 => (rm2_ne n1 n2).symm
    rw [view2] at rf
    have q := kk fs' S1 x dx ws' (rm2 H' x dx) hA (E1.xe le) (x1.trans (XE.of le)) (rm2_p hne') rm2_d hne' rf
    rw [ob_rm2 oa] at q
    exact q
  · have le : Lh H1 H' := ⟨fun b u e nt => by
      have n1 : b ≠ x := ne_of_none e hx
      have n2 : b ≠ dx := ne_of_none e hdx
      exact bt.k b u n1 n2 (by rw [show upd (upd H1 dx (.own x)) x (.ins C dx []) = obHp H1 x dx C [] from rfl, he1 b n1 n2]; exact e) nt, fun t => bt.tb (t.ext fun b u e => by rw [upd_ne (ne_of_none e hx), upd_ne (ne_of_none e hdx)]; exact e)⟩
    exact kx y S1 cls dd H' hy (E1.xe le) (x1.trans (XE.of le)) (by rw [a.mq]; exact ok)
/-- x = C(..) -/
def wNewOb (C : Addr) (i : Nat) (wb : WB) : WS := fun S P => wb S (fun fs S1 => ∀ a dx, P.nx (S1.set i (.ob a dx C fs))) P.ex
theorem ss_newOb [Tbs] {C : Addr} (i : Nat) {x : Str} {e : Expr} {p : Pos} {wb : WB} (a : At X W k) (he : SB X W C e wb) (hi : X.N[i]? = some x := by rfl) (hx : Loc X.env.scope x := by first | exact Or.inl rfl | exact Or.inr rfl) (hs : swapsWith e (some (.Name x p)) pos.line X.env = pure false := by rfl) (hf : X.fn x = true ∨ X.env.scope.names.lookup x = some .local := by first | exact .inl rfl | exact .inr rfl) :
    SS X W (.Assign [.Name x p] e pos) (wNewOb C i wb) := by
  obtain ⟨te, pe, se⟩ := he.ex
  refine ⟨_, ps_set a.nd hi hx pe hs hf, ?_⟩
  intro D0 S σ H o P D E hw g
  refine se D0 S σ H o _ P.ex _ E hw (fun fs S1 q dx ws H1 h1 E1 x1 hq hd hne rf => ?_) g.xw
  obtain ⟨E2, f2⟩ := E1.newOb (C := C) i hq hd hne rf
  exact g.nx _ _ _ _ (h1 q dx) E2 (x1.fr.trans f2)
/-- x, y = C(..), [..] -/
def wNewObL (C : Addr) (i j : Nat) (wb : WB) (wo : WLs) : WS := fun S P => wb S (fun fs S1 => wo S1 (fun ds c S2 => (c ∨ flats ds = true) ∧ ∀ a dx, P.nx ((S2.set i (.ob a dx C fs)).set j (.ol ds))) noX) P.ex
theorem ss_newObL [Tbs] {C : Addr} (i j : Nat) {x y : Str} {e1 e2 : Expr} {px py pt : Pos} {kt k2 pt2} {wb : WB} {wo : WLs} (a : At X W k) (h1 : SB X W C e1 wb) (h2 : SO X W e2 wo) (hi : X.N[i]? = some x := by rfl) (hj : X.N[j]? = some y := by rfl) (hij : i ≠ j := by decide)
    (hx : X.env.scope.names.lookup x = some .local := by rfl) (hy : X.env.scope.names.lookup y = some .local := by rfl)
    (hw : swappedStores [.Tuple [.Name x px, .Name y py] kt pt] (.Tuple [e1, e2] k2 pt2) X.env = pure (some [x, y]) := by rfl)
    (hs : swapsWithSole [.Tuple [.Name x px, .Name y py] kt pt] (.Tuple [e1, e2] k2 pt2) pos.line X.env = pure false := by rfl)
    (hst : starEach [e1, e2] X.env = (false, eval e1 X.env) :: starEach [e2] X.env := by rfl) (hst2 : starEach [e2] X.env = (false, eval e2 X.env) :: starEach [] X.env := by rfl) :
    SS X W (.Assign [.Tuple [.Name x px, .Name y py] kt pt] (.Tuple [e1, e2] k2 pt2) pos) (wNewObL C i j wb wo) := by
  obtain ⟨t1, p1, s1⟩ := h1.ex
  obtain ⟨t2, p2, s2⟩ := h2.ex
  refine ⟨_, ps_par a.calm a.nd hi hj hij hx hy (pa_cons p1 (pa_cons p2 pa_nil hst2) hst) hw hs, ?_⟩
  intro D0 S σ H o P D E hw g
  refine s1 D0 S σ H o _ P.ex _ E hw (fun fs S1 q dx ws H1 h1 E1 x1 hq hd hne rf => ?_) g.xw
  have nq := E1.new hq
  have nd := E1.new hd
  have e1 : rm (upd H1 dx (.own q)) dx = H1 := by rw [rm_upd, rm_none hd]
  have Ea : Env (plus D0 dx) S1 σ (upd H1 dx (.own q)) o := Env.hide (by rw [e1]; exact E1) upd_same rfl
  have hq' : upd H1 dx (.own q) q = none := by rw [upd_ne hne]; exact hq
  have e2 : rm (obHp H1 q dx C ws) q = upd H1 dx (.own q) := by unfold obHp; rw [rm_upd, rm_none hq']
  have Eb : Env (plus (plus D0 dx) q) S1 σ (obHp H1 q dx C ws) o := Env.hide (by rw [e2]; exact Ea) upd_same rfl
  refine s2 (plus (plus D0 dx) q) S1 σ _ o _ noX _ Eb h1 (fun ds c S2 vs l H2 h2 E2 x2 hl V2 => ?_) (fun _ _ _ _ _ h => h.elim)
  obtain ⟨hc, h2⟩ := h2
  have oq : H2 q = some (.ins C dx ws) := x2 q _ (by rw [nq.2]; rfl) upd_same rfl
  have od : H2 dx = some (.own q) := x2 dx _ (by rw [nd.2]; rfl) (obAt_hp hne).d rfl
  have ob : ObAt H2 q dx C ws := ⟨hne, oq, od⟩
  have pq : plus D0 dx q = false := by rw [plus_ne hne]; exact nq.1
  have Ec : Env D0 S2 σ (rm2 H2 q dx) o := Env.show_ nd.1 nd.2 (show rm H2 q dx = some (.own q) by rw [rm_ne (Ne.symm hne)]; exact od) (Env.show_ pq nq.2 oq E2)
  have lr : rm2 H2 q dx l = none := by
    have n1 : l ≠ q := fun z => by rw [z, oq] at hl; cases hl
    have n2 : l ≠ dx := fun z => by rw [z, od] at hl; cases hl
    rw [rm2_ne n1 n2]; exact hl
  have xe : XE o H1 (rm2 H2 q dx) := fun b u hm e nt => by
    have n1 : b ≠ q := ne_of_none e hq
    have n2 : b ≠ dx := ne_of_none e hd
    rw [rm2_ne n1 n2]
    exact x2 b u hm (by rw [obHp_ne n1 n2]; exact e) nt
  have E3 := Ec.newOb (C := C) i (rm2_p hne) rm2_d hne (rf.mono xe.vw)
  obtain ⟨E3, f3⟩ := E3
  rw [show upd (upd (rm2 H2 q dx) dx (.own q)) q (.ins C dx ws) = obHp (rm2 H2 q dx) q dx C ws from rfl, ob_rm2 ob] at E3 f3
  have rv := V2.clean E2 hc
  rw [vw_plus, vw_plus] at rv
  have rv' : RpAll (vw D0 (orng q dx i o) (co H2)) vs ds := by
    rw [vw_nob (H := rm2 H2 q dx) (rm2_p hne) rm2_d fun b n1 n2 => (rm2_ne n1 n2).symm]
    exact rv
  have E4 := E3.own j hl rv'
  exact ⟨_, _, rfl, g.nx _ _ _ _ (h2 q dx) E4 (((x1.fr.trans xe.fr).trans f3).trans (fr_own (D0 := D0) (S := S2) (σ := σ) hl))⟩
/-! ### a method that hands back a new object of the class; its own object stays as it is -/
def spOfC [Tbs] (C : Addr) (sp : Fs → (Fs → Prop) → Prop) : Sp := fun vs H Q _ => TbOk H ∧ ∃ (a dx : Addr) (ws : List (Str × V)) (fs : Fs) (D0 : Addr → Bool) (A : Fs → Prop), vs = [.ref a] ∧ ObAt H a dx C ws ∧ D0 a = false ∧ D0 dx = false ∧ (∀ b, D0 b = true → ∃ u, co H b = some u ∧ isTup u = false) ∧
  RpF (vw D0 (orng a dx 0 fun _ => none) (co H)) ws fs ∧ sp fs A ∧ ∀ fs' p px ws' ws2 H', A fs' → (∀ u, H p = some u → isTbl u = true) → (∀ u, H px = some u → isTbl u = true) → p ≠ px → ButT a dx H H' → ObAt H' a dx C ws2 → RpF (vw D0 (orng a dx 0 fun _ => none) (co (rm2 H' p px))) ws2 fs → ObAt H' p px C ws' → RpF (vw D0 (orng a dx 0 fun _ => none) (co (rm2 H' p px))) ws' fs' → Q (.ref p) H'
def wMethC (C : Addr) (i : Nat) (m : Str) (sp : Fs → (Fs → Prop) → Prop) : WB := fun S A _ => match S[i]? with
  | some (.ob _ _ C' fs) => C' = C ∧ fs.lookup m = none ∧ sp fs fun fs' => A fs' S
  | _ => False
theorem sb_meth [Tbs] {C : Addr} {j : Nat} (i : Nat) {sp : Fs → (Fs → Prop) → Prop} {x m : Str} {p apos : Pos} (a : At X W k) (c : Cls X.K C) (F : MDef X.prog X.w X.K X.mg X.base j C m 1 (spOfC C sp)) (hj : j ≤ k)
    (hN : X.N[i]? = some x := by rfl) (hv : Vis X.env.scope x := by first | exact Or.inl rfl | exact Or.inr (Or.inl rfl) | exact Or.inr (Or.inr rfl)) (hd : (x == ("__debug__" : Str)) = false := by decide) (hcd : (x == ("__classdict__" : Str)) = false := by decide) {pl : Sem Bool}
    (ht : eval (.Call (.Attribute (.Name x p) m apos) [] [] pos) X.env = (do
      let ov ← eval (.Name x p) X.env
      standAt apos.atName
      let (f, first) ← holding [ov] (getMethod ov m pl)
      callWith pos f first (backTo pos (starEach [] X.env)) (backToKw pos (keywordEach [] X.env))) := by rfl) :
    SB X W C (.Call (.Attribute (.Name x p) m apos) [] [] pos) (wMethC C i m sp) := by
  obtain ⟨f, fd, ps, G, hm, hb, hps⟩ := F.ex
  refine ⟨_, pe_methW0 (pl := pl) (pe_var hN hv hd hcd) c hm G (a.room.mono hj) hb a.tk ht, ?_⟩
  intro D0 S σ H o A B Q E hw kk kx
  unfold wMethC at hw
  split at hw
  · rename_i oa dx C' fs hs
    obtain ⟨rfl, hl0, hsp⟩ := hw
    obtain ⟨ws, q1, q2, q3, ob, rf⟩ := E.obAt hs
    have hn : ws.lookup m = none := by
      have := (rf.look m).1
      rw [hl0] at this
      cases e : ws.lookup m with
      | none => rfl
      | some _ => rw [e] at this; cases this
    refine ⟨.ref oa, q1, oa, dx, ws, rfl, ob.i, hn, ?_⟩
    refine ⟨E.tb, oa, dx, ws, fs, fun b => (D0 b || (o b).isSome) && !decide (b = oa) && !decide (b = dx), _, rfl, ob, by simp, by simp, fun b hb => E.deadV b (by simp at hb; simpa using hb.1.1), by rw [vw_borrow q2 q3]; exact rf, hsp, fun fs' np nx ws' ws2 H' hA hp hx hne bt oa' r2 on rn => ?_⟩
    rw [vw_borrow q2 q3] at r2 rn
    have pa : oa ≠ np := fun z => by cases hp _ (z ▸ ob.i)
    have pd : dx ≠ np := fun z => by cases hp _ (z ▸ ob.d)
    have xa : oa ≠ nx := fun z => by cases hx _ (z ▸ ob.i)
    have xd : dx ≠ nx := fun z => by cases hx _ (z ▸ ob.d)
    have bt' : ButT oa dx H (rm2 H' np nx) := ⟨fun b u n1 n2 e nt => by
      rw [rm2_ne (fun z => by rw [hp u (z ▸ e)] at nt; cases nt) (fun z => by rw [hx u (z ▸ e)] at nt; cases nt)]
      exact bt.k b u n1 n2 e nt, fun t => (bt.tb t).but fun b u e y => by
        rw [rm2_ne (fun z => by rw [z, on.i] at e; cases e; cases y) (fun z => by rw [z, on.d] at e; cases e; cases y)]
        exact e⟩
    have oa2 : ObAt (rm2 H' np nx) oa dx C' ws2 := ⟨oa'.ne, by rw [rm2_ne pa xa]; exact oa'.i, by rw [rm2_ne pd xd]; exact oa'.d⟩
    obtain ⟨E2, x2⟩ := E.obj hs bt' oa2 r2
    have eS : S.set i (.ob oa dx C' fs) = S := by
      obtain ⟨h1, h2⟩ := List.getElem?_eq_some_iff.mp hs
      rw [← h2]
      exact List.set_getElem_self h1
    rw [eS] at E2
    have q := kk fs' S np nx ws' (rm2 H' np nx) hA E2 x2 (rm2_p hne) rm2_d hne rn
    rw [ob_rm2 on] at q
    exact q
  · exact hw.elim
/-- statements, the last of them with the reading tl -/
structure SSe [Tbs] (X : Cx) (W : WM) (st : List Stmt) (w : WS) (tl : TS) : Prop where
  ex : ∃ t, PSs X st t ∧ ∀ (D0 : Addr → Bool) (S : Slots) (σ : St) (H : Hp) (o : Ow) (P : En) (D : Ends), Env D0 S σ H o → w S P → Goes W D0 o H P { D with nx := tl D } → t D σ H
theorem sse_one [Tbs] {st : Stmt} {tl : TS} (h : PS X st tl) : SSe X W [st] wSkip tl := ⟨_, pss_one h, fun D0 S σ H o P D E hw g => g.nx S σ H o hw E (Fr.refl _ _)⟩
theorem sse_cons [Tbs] {st : Stmt} {rest : List Stmt} {w1 w2 : WS} {tl : TS} (h1 : SS X W st w1) (h2 : SSe X W rest w2 tl) : SSe X W (st :: rest) (wSeq w1 w2) tl := by
  obtain ⟨t1, p1, s1⟩ := h1.ex
  obtain ⟨t2, p2, s2⟩ := h2.ex
  refine ⟨_, pss_cons p1 p2, ?_⟩
  intro D0 S σ H o P D E hw g
  refine s1 D0 S σ H o _ _ E hw ⟨fun S' σ' H' o' h E' f => ?_, g.bk, g.ct, g.rt, g.ex⟩
  exact s2 D0 S' σ' H' o' P D E' h (g.on f)
end
section
variable {P : Program} {w : World} {K : PySem.W.Frag} {mg : Str → Option Value} {base : Heap}
/-- THE RULE for a method that makes a new object, in slot j, and hands it back -/
theorem def_okC [Tbs] {C : Addr} {x q : Str} {st : Stmt} {f : Addr} {fd : FuncData} {N : List Str} {k : Nat} (j : Nat) {sp : Fs → (Fs → Prop) → Prop} (F : Fun K x q st f fd) (S : FnScope N ["self"] (defScope st)) (hN : 1 ≤ N.length)
    (hb : ∀ (cdv : Value) (A : Around) (outer : List PySem.Env) (s : Shared) (H : Hp) (E : XK), At (cxOf (L2.CX P w) P w K mg base N q (defScope st) f cdv A outer s H E) ⟨mg, fun cls d _ H' => E cls d H'⟩ k →
      ∃ wb, SSe (cxOf (L2.CX P w) P w K mg base N q (defScope st) f cdv A outer s H E) ⟨mg, fun cls d _ H' => E cls d H'⟩ (defBody st) wb (tRet (tVar j)) ∧
        ∀ fs A a dx, sp fs A → wb (.ob a dx C fs :: List.replicate (N.length - 1) .un) ⟨fun S => S[0]? = some (.ob a dx C fs) ∧ ∃ p px fs', S[j]? = some (.ob p px C fs') ∧ j ≠ 0 ∧ A fs', fun _ _ _ => False, fun _ => False, fun _ => False, fun _ _ => False⟩) :
    FnOk P w K mg base (L2.CX P w) (k + 1) f fd ["self"] (spOfC C sp) := by
  refine F.okX S (fun vs H Q E h => by obtain ⟨_, a, dx, ws, fs, D0, A, rfl, _⟩ := h; rfl) (fun cdv A outer s H vs Q E hr h => ?_)
  obtain ⟨tb, a, dx, ws, fs, D0, A', rfl, ob, d1, d2, hd, rf, hsp, hA⟩ := h
  have at_ : At (cxOf (L2.CX P w) P w K mg base N q (defScope st) f cdv A outer s H E) ⟨mg, fun cls d _ H' => E cls d H'⟩ k := ⟨hr, rfl, takes_of rfl rfl rfl rfl, rfl, S.nd, passes_of rfl⟩
  obtain ⟨wb, hp, hw⟩ := hb cdv A outer s H E at_
  obtain ⟨t, pt, st'⟩ := hp.ex
  refine ⟨t, pt, ?_⟩
  have E0 := env_startO (N := N) (us := []) (ds := []) tb ob d1 d2 hd rf .nil hN
  have es : startS (N.length - 1) [] = List.replicate (N.length - 1) .un := by unfold startS; simp
  rw [es] at E0
  refine st' D0 _ _ H _ _ _ E0 (hw fs A' a dx hsp) ⟨fun S' σ' H' o' h E' f => ?_, fun _ _ _ _ h => h.elim, fun _ _ _ _ h => h.elim, fun _ _ _ _ _ _ _ h => h.elim, fun _ _ _ _ _ _ _ h => h.elim⟩
  obtain ⟨h0, p, px, fs', h1, hj, hAf⟩ := h
  obtain ⟨ws2, k1, k2, k3, k4, k5⟩ := E'.obAt h0
  obtain ⟨ws', l1, l2, l3, l4, l5⟩ := E'.obAt h1
  refine ⟨.ref p, l1, ?_⟩
  have fresh : ∀ c, o' c = some (j, true) → ∀ u, H c = some u → isTbl u = true := fun c hc u e => by
    by_cases n1 : c = a
    · subst n1; rw [k2] at hc; cases hc; exact absurd rfl hj
    · by_cases n2 : c = dx
      · subst n2; rw [k3] at hc; cases hc; exact absurd rfl hj
      · cases nt : isTbl u with
        | true => rfl
        | false =>
          have := (f c u (if_neg (fun z => z.elim n1 n2)) e nt).2
          rw [this] at hc
          cases hc
  have le : Le (vw D0 o' (co H')) (vw D0 (orng a dx 0 fun _ => none) (co (rm2 H' p px))) := fun b u e => by
    obtain ⟨hD, ho⟩ := vw_no e
    have n1 : b ≠ a := fun z => by rw [z, k2] at ho; cases ho
    have n2 : b ≠ dx := fun z => by rw [z, k3] at ho; cases ho
    have n3 : b ≠ p := fun z => by rw [z, l2] at ho; cases ho
    have n4 : b ≠ px := fun z => by rw [z, l3] at ho; cases ho
    refine vw_at hD (if_neg (fun z => z.elim n1 n2)) ?_
    rw [co_eq (rm2_ne n3 n4)]
    exact vw_le _ _ e
  exact hA fs' p px ws' ws2 H' hAf (fresh p l2) (fresh px l3) l4.ne ⟨fun b u n1 n2 e nt => (f b u (if_neg (fun z => z.elim n1 n2)) e nt).1, fun _ => E'.tb⟩ k4 (k5.mono le) l4 (l5.mono le)
end
end Pu

namespace Pu
open PySem L2
section
variable {X : Cx} {W : WM} {k : Nat} {pos : Pos}
/-! ### len(d), locked or not -/
def rLenR : List V → Hp → VK → Prop := fun xs H Q => ∃ (p : Addr) (n : Nat), xs = [.ref p] ∧ ((∃ kvs : List (Key × V), Rd H p (.dK kvs) ∧ kvs.length = n) ∨ ∃ kvs : List (List Key × V), Rd H p (.dT kvs) ∧ kvs.length = n) ∧ Q (.int n) H
theorem cr_lenR : CallR X (.builtin "len") rLenR := by
  intro pins s σ H xs us Q I r h
  obtain ⟨p, n, rfl, hp, q⟩ := h
  rw [Vals.ref1 r]
  rcases hp with ⟨kvs, hp, rfl⟩ | ⟨kvs, hp, rfl⟩
  · exact d_len I hp fun t s' I' => ⟨.int kvs.length, H, I', ⟨t, rfl⟩, q⟩
  · obtain ⟨hz, hs, ys, rel, hm⟩ := dt_rd I.hok hp
    have hl : kvs.length = ys.length := Paired.length rel
    refine call_len_dictH hs hm (by rw [← hl]; have z : kvs.length ≤ 16777216 := hz; omega) ?_
    rw [← hl]
    exact ⟨.int ((kvs.length : Nat) : Int), H, I.tok _, ⟨_, rfl⟩, q⟩
def gLenD : RD := fun ds _ K => match ds with
  | [.dict es] => K (.int ((dE es).length : Nat)) True
  | _ => False
theorem f_lenD [Tbs] : Fn X (.builtin "len") gLenD := by
  refine ⟨_, cr_lenR, ?_⟩
  intro D0 S σ o H vs ds c K Q E V hg kk
  unfold gLenD at hg
  split at hg
  · obtain ⟨v, rfl, U⟩ := vals1 V
    obtain ⟨ad, u, rfl, hr, hd, d1, d2⟩ := U.dok
    rcases d1 with ⟨kvs, es', rfl, rfl, r⟩ | ⟨kvs, rfl, r⟩
    · refine ⟨ad, _, rfl, .inl ⟨kvs, co_dK hr, r.length⟩, ?_⟩
      exact kk _ _ _ H hg (Lh.refl H) (Val.of (.int _))
    · refine ⟨ad, _, rfl, .inr ⟨kvs, co_dT hr, r.length⟩, ?_⟩
      rw [r.dE.1] at hg
      exact kk _ _ _ H hg (Lh.refl H) (Val.of (.int _))
  · exact hg.elim
/-! ### d[k], d the frame's own -/
def wDGetV (i : Nat) (we : WEx) : WEx := fun S A B => (∃ es, S[i]? = some (.od es)) ∧ we S (fun k _ S2 => match S2[i]? with
  | some (.od es) => okK es k = true ∧ ∃ v, lookE (dE es) k = some v ∧ A v True S2
  | _ => False) B
theorem se_dgetV [Tbs] (i : Nat) {x : Str} {p : Pos} {j : Expr} {we : WEx} (a : At X W k) (hi : SE X W j we) (hs : NoSl j := by exact fun _ _ => rfl) (hN : X.N[i]? = some x := by rfl) (hv : Vis X.env.scope x := by first | exact Or.inl rfl | exact Or.inr (Or.inl rfl) | exact Or.inr (Or.inr rfl))
    (hd : (x == ("__debug__" : Str)) = false := by decide) (hcd : (x == ("__classdict__" : Str)) = false := by decide) : SE X W (.Subscript (.Name x p) j pos) (wDGetV i we) := by
  obtain ⟨ti, pi, si⟩ := hi.ex
  refine ⟨_, pe_dget a.u1 (pe_var hN hv hd hcd) pi hs, ?_⟩
  intro D0 S σ H o A B Q E hw kk kx
  obtain ⟨⟨es0, hs0⟩, hw⟩ := hw
  obtain ⟨ad, u0, q1, q2, q3, q4⟩ := E.sl i _ hs0
  refine ⟨.ref ad, q1, si D0 S σ H o _ B _ E hw (fun kd ck S2 y H2 h2 E2 x2 V2 => ?_) kx⟩
  split at h2
  · rename_i es hs2
    obtain ⟨hk, v, hl, h2⟩ := h2
    obtain ⟨ad', u, e1, e2, e3, e4⟩ := E2.sl i _ hs2
    rw [q1] at e1
    cases e1
    obtain ⟨ov, dg, hsm, hg⟩ := dget_of e3 e4 V2.1 hk
    cases ov with
    | none => rw [hl] at hsm; cases hsm
    | some w =>
      obtain ⟨d, hd', rd⟩ := hg _ e4 w rfl
      rw [hl] at hd'
      cases hd'
      exact ⟨ad, w, rfl, dg, kk _ _ S2 _ H2 h2 E2 x2 (Val.of rd)⟩
  · exact h2.elim
/-! ### x = ys.pop(), ys the frame's own -/
def wPopS (i j : Nat) : WS := fun S P => i ≠ j ∧ match S[j]? with
  | some (.ol xs) => ∃ r d, xs = r ++ [d] ∧ P.nx ((S.set j (.ol r)).set i (.im d))
  | _ => False
theorem ss_popS [Tbs] (i j : Nat) {x y : Str} {p q ap cp : Pos} (a : At X W k) (hi : X.N[i]? = some x := by rfl) (hN : X.N[j]? = some y := by rfl)
    (hx : Loc X.env.scope x := by first | exact Or.inl rfl | exact Or.inr rfl) (hf : X.fn x = true ∨ X.env.scope.names.lookup x = some .local := by first | exact .inl rfl | exact .inr rfl)
    (hv : Vis X.env.scope y := by first | exact Or.inl rfl | exact Or.inr (Or.inl rfl) | exact Or.inr (Or.inr rfl))
    (hd : (y == ("__debug__" : Str)) = false := by decide) (hcd : (y == ("__classdict__" : Str)) = false := by decide)
    (hb : attributeBase (.Name y q) "pop" X.env (eval (.Name y q) X.env) = eval (.Name y q) X.env := by rfl)
    (hl : (ap.endLine == cp.line) = true := by rfl)
    (hsw : swapsWith (.Call (.Attribute (.Name y q) "pop" ap) [] [] cp) (some (.Name x p)) pos.line X.env = pure false := by rfl) :
    SS X W (.Assign [.Name x p] (.Call (.Attribute (.Name y q) "pop" ap) [] [] cp) pos) (wPopS i j) := by
  refine ⟨_, ps_set a.nd hi hx (pe_bm0 PySem.F.plainAttrs_list PySem.F.slot_list_pop PySem.F.type_list_pop mt_pop (pe_var hN hv hd hcd) hb hl) hsw hf, ?_⟩
  intro D0 S σ H o P D E hw g
  obtain ⟨hne, hw⟩ := hw
  split at hw
  · rename_i xs hs0
    obtain ⟨r, d, rfl, hw⟩ := hw
    obtain ⟨ad, vs, h1, h2, h3, h4⟩ := E.sl j _ hs0
    refine ⟨.ref ad, h1, .inl ⟨rfl, vs, SqL.at (co_lst h3)⟩, ?_⟩
    have hlen := h4.length
    rw [List.length_append, List.length_singleton] at hlen
    have hd0 : (r ++ [d])[vs.length - 1]? = some d := by
      rw [hlen, Nat.add_sub_cancel, List.getElem?_append_right (Nat.le_refl _), Nat.sub_self]; rfl
    obtain ⟨v, hv1, hv2⟩ := h4.get hd0
    refine ⟨ad, vs, v, rfl, rfl, co_lst h3, hv1, ?_⟩
    have hr : RpAll (vw D0 o (co H)) vs.dropLast r := by
      have := h4.dropLast
      rwa [List.dropLast_concat] at this
    have E1 := E.wr (E.lt hs0) h1 h2 hr
    have hv3 : Rp (vw D0 o (co (upd H ad (.lst vs.dropLast)))) v d := by rw [ow_vw h2]; exact hv2
    exact g.nx _ _ _ _ hw (E1.put i hv3) (fr_wr h2)
  · exact hw.elim
/-! ### d.update(e), the keys tuples -/
def putAllK (kvs more : List (List Key × V)) : List (List Key × V) := more.foldl (fun acc p => putK acc p.1 p.2) kvs
theorem KT_all {H : Hp} : ∀ {more : List (List Key × V)} {ms : List (List Key × Addr × Value)} {kvs : List (List Key × V)} {xs : List (List Key × Addr × Value)}, KT H kvs xs → KT H more ms → KT H (putAllK kvs more) (storedAllH xs ms)
  | _, _, _, _, r, .nil => r
  | _, _, _, _, r, .cons (a := p) (b := q) h t => by
    obtain ⟨h1, h2, h3⟩ := h
    have r1 := r.put p.1 (b := q.2.1) h2 h3
    have r2 := KT_all r1 t
    rw [h1] at r2
    unfold putAllK at r2 ⊢
    rw [List.foldl_cons, h1]
    exact r2
def putAllE (es more : Es) : Es := more.foldl (fun acc e => putE acc e.1 e.2) es
theorem RpT.putAll {G : Hp} : ∀ {more : List (List Key × V)} {ms : Es} {kvs : List (List Key × V)} {es : Es}, RpT G kvs es → RpT G more ms → RpT G (putAllK kvs more) (putAllE es ms)
  | _, _, _, _, r, .nil => r
  | _, _, _, _, r, .cons a b => (r.put a).putAll b
theorem putK_len (kvs : List (List Key × V)) (k : List Key) (v : V) : (putK kvs k v).length ≤ kvs.length + 1 := by
  unfold putK
  split <;> simp
/-- the hash of a key of ints -/
def hashIs (k : List Int) : Int := PySem.reduceHash (Builtin.Tuple.tupleHashOf (k.map PySem.hashInt))
theorem hash_ints (P : Program) (w : World) (k : List Int) : (tupleKind (mixKind P w)).hash (k.map Sum.inl) = hashIs k := by
  show PySem.reduceHash (Builtin.Tuple.tupleHashOf ((k.map Sum.inl).map (mixKind P w).hash)) = _
  rw [List.map_map]
  rfl
def rUpdT (P : Program) (w : World) : V → List V → Hp → VK → Prop := fun x xs H Q => ∃ (a b : Addr) (kvs more : List (List Key × V)), x = .ref a ∧ xs = [.ref b] ∧ a ≠ b ∧ H a = some (.dT kvs) ∧ Rd H b (.dT more) ∧
  (kvs ≠ [] ∨ (more.map fun p => (tupleKind (mixKind P w)).hash p.1).Nodup) ∧ kvs.length + more.length ≤ sizeLine ∧ Q .non (upd H a (.dT (putAllK kvs more)))
theorem mt_updT (hu : X.A.units + 1 < cLine) : MtR X "dict.update" (rUpdT X.prog X.w) := by
  intro pins s σ H x xs v us Q I rx rv h
  obtain ⟨a, b, kvs, more, rfl, rfl, hne, ha, hb, hn, hz, q⟩ := h
  cases rx
  rw [Vals.ref1 rv]
  obtain ⟨z1, sa, ka, rka, da⟩ := dt_rd I.hok (.inl ha)
  obtain ⟨z2, sb, kb, rkb, db⟩ := dt_rd I.hok hb
  have l1 : kvs.length = ka.length := Paired.length rka
  have l2 : more.length = kb.length := Paired.length rkb
  have ty : ∀ {m : List (List Key × V)} {ms : List (List Key × Addr × Value)}, KT H m ms → (∀ x ∈ ms, s.TypeIs (.ref x.2.1) "tuple") ∧ (m.map fun p => (tupleKind (mixKind X.prog X.w)).hash p.1) = ms.map fun x => (tupleKind (mixKind X.prog X.w)).hash x.1 := by
    intro m ms r
    induction r with
    | nil => exact ⟨fun x hx => (nomatch hx), rfl⟩
    | @cons p q ps qs h t ih =>
      refine ⟨fun x hx => ?_, by rw [List.map_cons, List.map_cons, ih.2, h.1]⟩
      rcases List.mem_cons.mp hx with e | hx
      · subst e
        obtain ⟨its, r, ⟨o, ho, hc, _⟩, _⟩ := I.tuple (SqT.at h.2.1)
        exact ⟨o, ho, hc⟩
      · exact ih.1 x hx
  refine call_update_dictH (knd := tupleKind (mixKind X.prog X.w)) hu hne sb da db ?_ (by rw [← l1, ← l2]; exact hz) fun h' hd' ho' hs => ?_
  · rcases hn with hn | hn
    · left
      intro e
      rw [e] at l1
      exact hn (List.length_eq_zero_iff.mp l1)
    · right
      exact ⟨(ty rkb).1, by rw [← (ty rkb).2]; exact hn⟩
  · have len : ∀ (m k : List (List Key × V)), (putAllK k m).length ≤ k.length + m.length := by
      intro m
      induction m with
      | nil => intro k; exact Nat.le_refl _
      | cons p m ih =>
        intro k
        have := ih (putK k p.1 p.2)
        have := putK_len k p.1 p.2
        show (putAllK (putK k p.1 p.2) m).length ≤ _
        rw [List.length_cons]
        omega
    have hsame : ∀ c u, c ≠ a → s.heap.get? c = some u → h'.get? c = some u := fun c u hc e => (hs.2 c hc).trans e
    obtain ⟨o', es', ep', ho1, hx1, hd1, he1, _, hn1⟩ := hd'
    refine ⟨.non, upd H a (.dT (putAllK kvs more)), I.write (by rw [ha]; trivial) (.inl rfl) hsame ⟨_, ho1⟩ ?_, rfl, q⟩
    refine ⟨Nat.le_trans (len _ _) hz, sa, _, Paired.mapP (KT_all rka rkb) fun p q z => ⟨z.1, ?_, z.2.2⟩, o', es', ep', ho1, hx1, hd1, he1, hn1⟩
    rw [upd_ne (fun e => by rw [e, ha] at z; cases z.2.1)]
    exact z.2.1
/-- a copy asks that no two hashes are alike -/
def hashNd (more : Es) : Prop := ∃ ks : List (List Int), more.map (·.1) = ks.map (fun k => PyData.tuple (k.map .int)) ∧ (ks.map hashIs).Nodup
theorem keyD_inj {a b : Key} (h : keyD a = keyD b) : a = b := by
  have e := eqA_key a b
  rw [h, eqA_key b b] at e
  simpa using e.symm
theorem keyD_ints : ∀ {ks : List Key} {ns : List Int}, ks.map keyD = ns.map PyData.int → ks = ns.map Sum.inl
  | [], [], _ => rfl
  | [], _ :: _, h => by cases h
  | _ :: _, [], h => by cases h
  | a :: r, n :: m, h => by
    rw [List.map_cons, List.map_cons, List.cons.injEq] at h
    rw [List.map_cons, ← keyD_ints h.2]
    have e : a = Sum.inl n := keyD_inj (b := Sum.inl n) h.1
    rw [e]
theorem hashNd_of {G : Hp} (P : Program) (w : World) {more : List (List Key × V)} {ms : Es} (r : RpT G more ms) (h : hashNd ms) : (more.map fun p => (tupleKind (mixKind P w)).hash p.1).Nodup := by
  obtain ⟨ks, h1, h2⟩ := h
  rw [r.fst] at h1
  have e : more.map (·.1) = ks.map fun k => k.map Sum.inl := by
    clear h2 r
    revert ks
    induction more with
    | nil =>
      intro ks h1
      cases ks with
      | nil => rfl
      | cons k ks => cases h1
    | cons p more ih =>
      intro ks h1
      cases ks with
      | nil => cases h1
      | cons k ks =>
        rw [List.map_cons, List.map_cons, List.cons.injEq] at h1
        rw [List.map_cons, List.map_cons, ih ks h1.2]
        have := keyD_ints (PyData.tuple.inj h1.1)
        rw [this]
  have e2 : (more.map fun p => (tupleKind (mixKind P w)).hash p.1) = ks.map hashIs := by
    have : (more.map fun p => (tupleKind (mixKind P w)).hash p.1) = (more.map (·.1)).map (tupleKind (mixKind P w)).hash := by rw [List.map_map]; rfl
    rw [this, e, List.map_map]
    exact List.map_congr_left fun k _ => hash_ints P w k
  rw [e2]
  exact h2
def wUpd (i : Nat) (we : WEx) : WS := fun S P => (∃ es, S[i]? = some (.od es) ∧ isMk es = false) ∧ we S (fun d c S1 => match d, S1[i]? with
  | .dict more, some (.od es) => isMk es = false ∧ isMk more = false ∧ (es ≠ [] ∨ hashNd more) ∧ es.length + more.length ≤ sizeLine ∧ (c ∨ fvals more = true) ∧ P.nx (S1.set i (.od (putAllE es more)))
  | _, _ => False) P.ex
theorem dok_T {G : Hp} {u : HO} {es : Es} (d : DOk G u es) (h : isMk es = false) : ∃ kvs, u = .dT kvs ∧ RpT G kvs es := by
  rcases d with ⟨kvs, es', rfl, _, _⟩ | ⟨kvs, h1, h2⟩
  · cases h
  · exact ⟨kvs, h1, h2⟩
theorem ss_upd [Tbs] (i : Nat) {x y : Str} {j : Nat} {p p2 ap cp : Pos} (a : At X W k) (hij : i ≠ j := by decide) (hN : X.N[i]? = some x := by rfl) (hv : Vis X.env.scope x := by first | exact Or.inl rfl | exact Or.inr (Or.inl rfl) | exact Or.inr (Or.inr rfl))
    (hd : (x == ("__debug__" : Str)) = false := by decide) (hcd : (x == ("__classdict__" : Str)) = false := by decide)
    (hN2 : X.N[j]? = some y := by rfl) (hv2 : Vis X.env.scope y := by first | exact Or.inl rfl | exact Or.inr (Or.inl rfl) | exact Or.inr (Or.inr rfl))
    (hd2 : (y == ("__debug__" : Str)) = false := by decide) (hcd2 : (y == ("__classdict__" : Str)) = false := by decide)
    (hb : attributeBase (.Name x p) "update" X.env (eval (.Name x p) X.env) = eval (.Name x p) X.env := by rfl)
    (hfew : ((backTo cp (starEach [(.Name y p2)] X.env)).all (fun x => !x.1) && (backToKw cp (keywordEach [] X.env)).all (fun x => x.1.isSome) && decide ([(Expr.Name y p2)].length + ([] : List Keyword).length + (if ([] : List Keyword).isEmpty then 0 else 1) < 30)) = true := by rfl)
    (hl : (ap.endLine == cp.line) = true := by rfl) (hst : starEach [(.Name y p2)] X.env = (false, eval (.Name y p2) X.env) :: starEach [] X.env := by rfl) (hpl : (backTo cp (starEach [] X.env)).any (·.1) = false := by rfl)
    (hsw : swapsWith (.Call (.Attribute (.Name x p) "update" ap) [(.Name y p2)] [] cp) none pos.line X.env = pure false := by rfl) :
    SS X W (.Expr (.Call (.Attribute (.Name x p) "update" ap) [(.Name y p2)] [] cp) pos) (wUpd i (wV j)) := by
  refine ⟨_, ps_expr (pe_bm PySem.F.plainAttrs_dict PySem.F.slot_dict_update PySem.F.type_dict_update (mt_updT a.u1) (pe_var hN hv hd hcd) (pa_cons (pe_var hN2 hv2 hd2 hcd2) pa_nil hst) hb hfew hl hst hpl) hsw, ?_⟩
  intro D0 S σ H o P D E hw g
  obtain ⟨⟨es0, hs0, hm0⟩, hw⟩ := hw
  obtain ⟨ad, u0, h1, h2, h3, h4⟩ := E.sl i _ hs0
  obtain ⟨kvs, rfl, r1⟩ := dok_T h4 hm0
  have raw : H ad = some (.dT kvs) := by
    rcases co_dct h3 rfl with z | ⟨od, z⟩
    · exact z
    · have := E.nf _ _ _ h2 z
      cases this
  refine ⟨.ref ad, h1, .inr (.inr (.inl ⟨rfl, .inr ⟨kvs, raw⟩⟩)), ?_⟩
  have main : ∀ (d : PyData) (c : Prop) (v : V), Val D0 o H v d c → (∀ b, v = .ref b → o b ≠ some (i, false)) → (match d, S[i]? with
      | .dict more, some (.od es) => isMk es = false ∧ isMk more = false ∧ (es ≠ [] ∨ hashNd more) ∧ es.length + more.length ≤ sizeLine ∧ (c ∨ fvals more = true) ∧ P.nx (S.set i (.od (putAllE es more)))
      | _, _ => False) → rUpdT X.prog X.w (.ref ad) [v] H fun x H2 => D.nx σ H2 := by
    intro d c v V1 hnb h5
    split at h5
    · rename_i more es hs1
      obtain ⟨m1, m2, hn, hz, hc, h5⟩ := h5
      rw [hs0] at hs1
      cases hs1
      obtain ⟨b, u2, rfl, hr, hd', d1, d2⟩ := V1.dok
      obtain ⟨kv2, rfl, r3⟩ := dok_T d1 m2
      have r4 : RpT (vw D0 o (co H)) kv2 more := by
        have := DOk.clean E d1 d2 hc
        obtain ⟨kv3, e3, r⟩ := dok_T this m2
        cases e3
        exact r
      refine ⟨ad, b, kvs, kv2, rfl, rfl, fun e => hnb b rfl (e ▸ h2), raw, co_dT hr, ?_, by rw [r1.length, r3.length]; exact hz, ?_⟩
      · rcases hn with hn | hn
        · left
          intro e
          subst e
          cases r1
          exact hn rfl
        · exact .inr (hashNd_of _ _ r3 hn)
      · exact g.nx _ _ _ _ h5 (E.wrD (E.lt hs0) h1 h2 (.inr ⟨_, rfl, r1.putAll r4⟩)) (fr_wr h2)
    · exact h5.elim
  unfold wV at hw
  split at hw
  · rename_i d hj
    obtain ⟨v, e1, r⟩ := E.sl j _ hj
    refine ⟨v, e1, main _ _ v (Val.of r) (fun b e z => ?_) hw⟩
    subst e
    have hn0 : ∀ {u : HO}, vw D0 o (co H) b = some u → False := fun q => by
      have := (vw_no q).2
      rw [this] at z
      cases z
    cases r with
    | lst q _ => exact hn0 q
    | tup q _ => exact hn0 q
    | dK q _ => exact hn0 q
    | dT q _ => exact hn0 q
  · exact hw.elim
  · rename_i es2 hj
    obtain ⟨b, u, e1, e2, e3, e4⟩ := E.sl j _ hj
    have hv : Val D0 o H (.ref b) (.dict es2) False := ⟨(e4.mono vw_le_vt).rp (by
      unfold vt
      have hb := (E.live _ _ e2).1
      rw [hb, e2]
      exact e3), fun z => z.elim⟩
    exact ⟨.ref b, e1, main _ _ _ hv (fun b' e z => by cases e; rw [e2] at z; cases z; exact hij rfl) hw⟩
  · rename_i d2 hj
    obtain ⟨v, e1, r⟩ := E.sl j _ hj
    have V2 : Val D0 o H v d2 False := ⟨r.mono (vi_vt E), fun z => z.elim⟩
    refine ⟨v, e1, main _ _ v V2 (fun b e z => ?_) hw⟩
    subst e
    have hn0 : ∀ {u : HO}, vi D0 o (co H) j b = some u → False := fun {u} q => by
      unfold vi at q
      rw [if_neg (fun z2 => by rw [z] at z2; cases z2; exact hij rfl)] at q
      have := (vw_no (tupB_eq q).1).2
      rw [this] at z
      cases z
    cases r with
    | lst q _ => exact hn0 q
    | tup q _ => exact hn0 q
    | dK q _ => exact hn0 q
    | dT q _ => exact hn0 q
  · exact hw.elim
end
end Pu

namespace Pu
open PySem L2
section
variable {X : Cx} {W : WM} {k : Nat} {pos : Pos}
theorem kt_vals {H : Hp} : ∀ {kvs : List (List Key × V)} {ks : List (List Key × Addr × Value)}, KT H kvs ks → Vals (kvs.map (·.2)) (ks.map fun x => x.2.2)
  | _, _, .nil => .nil
  | _, _, .cons h t => .cons h.2.2 (kt_vals t)
theorem RpT.snd {G : Hp} : ∀ {kvs : List (List Key × V)} {es : Es}, RpT G kvs es → RpAll G (kvs.map (·.2)) (es.map (·.2))
  | _, _, .nil => .nil
  | _, _, .cons a b => .cons a b.snd
/-! ### list(d.values()), the keys tuples -/
def tLVals (te : TE) : TE := fun σ H Q => te σ H fun x H1 => ∃ (d : Addr) (kvs : List (List Key × V)), x = .ref d ∧ Rd H1 d (.dT kvs) ∧ ∀ p, H1 p = none → Q (.ref p) (upd H1 p (.lst (kvs.map (·.2))))
theorem pe_lVals {e : Expr} {te : TE} {p apos cpos : Pos} (hc : X.calm = true) (he : PE X e te) (hg : Gl X "list") (hm : X.mg "list" = none) (hv : bootBuiltins "list" = some (.type "list")) (hbase : attributeBase e "values" X.env (eval e X.env) = eval e X.env := by rfl) (hline : (apos.endLine == cpos.line) = true := by rfl)
    (hs : starEach [.Call (.Attribute e "values" apos) [] [] cpos] X.env = (false, eval (.Call (.Attribute e "values" apos) [] [] cpos) X.env) :: starEach [] X.env := by rfl) :
    PE X (.Call (.Name "list" p) [.Call (.Attribute e "values" apos) [] [] cpos] [] pos) (tLVals te) := by
  refine ⟨fun pins s σ H Q J hq => ?_⟩
  refine wpAny_Call_Name_kw (ld_blt J hg hm hv ?_)
  refine PyProof.Rows.callWith_type1 ?_ hs rfl
  rw [hs]
  show wpAny _ _ (spliced ((false, eval (.Call (.Attribute e "values" apos) [] [] cpos) X.env) :: backTo pos (starEach [] X.env))) _ _ s
  refine Calls.spliced_cons ?_
  refine wpAny_Call_method (T := "dict") (id := "dict.values") hbase rfl hline F.plainAttrs_dict F.slot_dict_values F.type_dict_values (thn (he.run pins s σ H _ J hq) fun u s1 ⟨x, H1, I1, rx, d, kvs, ex, hd, q⟩ => ?_)
  subst ex
  obtain rfl : u = Value.ref d := rx
  obtain ⟨z, hs0, ks, pr, o, es, ep, ho, hx, hdt, hes, hn⟩ := (show ObjOk X.prog X.w H1 s1.heap d (.dT kvs) from hd.ok I1.hok)
  have l1 : es.size = ks.length := size_of_entries hes
  have l2 : kvs.length = ks.length := Paired.length pr
  have hraw : s1.heap.DictRaw d es ep := ⟨o, ho, hx, hdt⟩
  have I2 : L2.Inv X pins σ H1 { s1 with heap := s1.heap.push { cls := .type "dict_values", data := .fields #[.ref d] } } := I1.kept (t' := s1.toks) fun b ob q => Heap.get?_push_of_some _ q
  refine ⟨hraw.typeIs, fun a ea => (by cases ea; exact ⟨o, ho, hx.2.1⟩), ?_⟩
  show wpAny _ _ (callWith cpos (.builtin "dict.values") [.ref d] [] []) _ X.xe s1
  refine method_meetsIn F.slot_dict_values F.entry_dict_values rfl (PySem.evalArgs_none ⟨rfl, hraw.typeIs, F.args_dict_values_1 _, _, meets_dict_values_raw d hs0, ⟨⟨es, ep, hraw⟩, ?_⟩⟩)
  refine Calls.spliced_nil ?_
  refine PySem.W.kdl_call (PySem.KdlSrc.rawValues (r := s1.heap.objs.size) (d := d) (es := es) (ep := ep)) (I1.ok.hd hc) ⟨⟨_, Heap.get?_push_size _ rfl, rfl, rfl⟩, hraw.push _⟩ (by omega) fun h' tk acc c hk hS hit => ?_
  have ea : acc.toList = ks.map fun x => x.2.2 := by
    have hl : acc.toList.length = ks.length := by rw [Array.length_toList, hit.1]; exact l1
    refine List.ext_getElem? fun j => ?_
    rw [List.getElem?_map]
    cases hj : acc.toList[j]? with
    | none => rw [List.getElem?_eq_none (by have := List.getElem?_eq_none_iff.mp hj; omega)]; rfl
    | some v =>
      obtain ⟨hi, hv⟩ := hit.2 j v (by rw [← Array.getElem?_toList]; exact hj)
      have qe : es.toList[j]? = (ks.map (entryOfKey (tupleKind (mixKind X.prog X.w))))[j]? := by rw [hes]
      rw [List.getElem?_map, Array.getElem?_toList, Array.getElem?_eq_getElem hi] at qe
      cases hb : ks[j]? with
      | none => rw [hb] at qe; cases qe
      | some b =>
        rw [hb] at qe
        have e2 : es[j] = entryOfKey (tupleKind (mixKind X.prog X.w)) b := Option.some.inj qe
        rw [hv, e2]
        rfl
  have rv : Vals (kvs.map (·.2)) acc.toList := by rw [ea]; exact kt_vals pr
  refine ⟨.ref _, upd H1 _ (.lst (kvs.map (·.2))), I2.laid (t' := tk) hk (Nat.le_refl _) ?_, rfl, q _ (I2.hok.fresh (Nat.le_refl _))⟩
  exact ⟨by rw [List.length_map]; omega, acc.toList, c, rv, by rw [Array.toArray_toList]; exact hS⟩
def wLV (i : Nat) : WLs := fun S A _ => match S[i]? with
  | some (.od es) => isMk es = false ∧ A (es.map (·.2)) True S
  | _ => False
theorem so_lVals [Tbs] (i : Nat) {x : Str} {p q apos cpos : Pos} (a : At X W k) (hm : X.mg "list" = none) (hN : X.N[i]? = some x := by rfl) (hv : Vis X.env.scope x := by first | exact Or.inl rfl | exact Or.inr (Or.inl rfl) | exact Or.inr (Or.inr rfl))
    (hd : (x == ("__debug__" : Str)) = false := by decide) (hcd : (x == ("__classdict__" : Str)) = false := by decide) (hg : Gl X "list" := by rfl) (hbase : attributeBase (.Name x q) "values" X.env (eval (.Name x q) X.env) = eval (.Name x q) X.env := by rfl) (hline : (apos.endLine == cpos.line) = true := by rfl)
    (hs : starEach [.Call (.Attribute (.Name x q) "values" apos) [] [] cpos] X.env = (false, eval (.Call (.Attribute (.Name x q) "values" apos) [] [] cpos) X.env) :: starEach [] X.env := by rfl) :
    SO X W (.Call (.Name "list" p) [.Call (.Attribute (.Name x q) "values" apos) [] [] cpos] [] pos) (wLV i) := by
  refine ⟨_, pe_lVals a.calm (pe_var hN hv hd hcd) hg hm bt_list hbase hline hs, ?_⟩
  intro D0 S σ H o A B Q E hw kk kx
  unfold wLV at hw
  split at hw
  · rename_i es hs0
    obtain ⟨ad, u0, h1, h2, h3, h4⟩ := E.sl i _ hs0
    obtain ⟨kvs, rfl, r1⟩ := dok_T h4 hw.1
    exact ⟨.ref ad, h1, ad, kvs, rfl, co_dT h3, fun p hp => kk _ _ S _ p H hw.2 E (XE.refl o H) hp ⟨r1.snd.mono vw_le_vt, fun _ => r1.snd⟩⟩
  · exact hw.elim
/-! ### list(d.items()), the keys ints and texts -/
def itemsD (es : Es) : List PyData := (dE es).map fun e => .tuple [e.1, e.2]
def wLI (i : Nat) : WLs := fun S A _ => match S[i]? with
  | some (.od es) => isMk es = true ∧ A (itemsD es) True S
  | _ => False
theorem dok_K {G : Hp} {u : HO} {es : Es} (d : DOk G u es) (h : isMk es = true) : ∃ kvs es', es = (.none, .none) :: es' ∧ u = .dK kvs ∧ RpK G kvs es' := by
  rcases d with ⟨kvs, es', h1, h2, h3⟩ | ⟨kvs, rfl, h2⟩
  · exact ⟨kvs, es', h1, h2, h3⟩
  · rw [h2.dE.2] at h; cases h
theorem rp_itemsK {G : Hp} : ∀ {ts : List Addr} {kvs : List (Key × V)} {es : Es}, Paired (fun (t : Addr) (q : Key × V) => G t = some (.tup [kV q.1, q.2])) ts kvs → RpK G kvs es → RpAll G (ts.map V.ref) (es.map fun e => PyData.tuple [e.1, e.2])
  | _, _, _, .nil, .nil => .nil
  | _, _, _, .cons h t, .cons a b => .cons (.tup h (.cons (rp_key _) (.cons a .nil))) (rp_itemsK t b)
theorem paired_in {α β : Type} {F G : α → β → Prop} : ∀ {xs : List α} {ys : List β}, Paired F xs ys → (∀ x ∈ xs, ∀ y, F x y → G x y) → Paired G xs ys
  | _, _, .nil, _ => .nil
  | _, _, .cons r t, h => .cons (h _ List.mem_cons_self _ r) (paired_in t fun x hx => h x (List.mem_cons_of_mem _ hx))
theorem so_lItems [Tbs] (i : Nat) {x : Str} {p q apos cpos : Pos} (a : At X W k) (hm : X.mg "list" = none) (hN : X.N[i]? = some x := by rfl) (hv : Vis X.env.scope x := by first | exact Or.inl rfl | exact Or.inr (Or.inl rfl) | exact Or.inr (Or.inr rfl))
    (hd : (x == ("__debug__" : Str)) = false := by decide) (hcd : (x == ("__classdict__" : Str)) = false := by decide) (hg : Gl X "list" := by rfl) (hbase : attributeBase (.Name x q) "items" X.env (eval (.Name x q) X.env) = eval (.Name x q) X.env := by rfl) (hline : (apos.endLine == cpos.line) = true := by rfl)
    (hs : starEach [.Call (.Attribute (.Name x q) "items" apos) [] [] cpos] X.env = (false, eval (.Call (.Attribute (.Name x q) "items" apos) [] [] cpos) X.env) :: starEach [] X.env := by rfl) :
    SO X W (.Call (.Name "list" p) [.Call (.Attribute (.Name x q) "items" apos) [] [] cpos] [] pos) (wLI i) := by
  refine ⟨_, LiI.pe_listItems a.calm (pe_var hN hv hd hcd) hg hm bt_list hbase hline hs, ?_⟩
  intro D0 S σ H o A B Q E hw kk kx
  unfold wLI at hw
  split at hw
  · rename_i es hs0
    obtain ⟨ad, u0, h1, h2, h3, h4⟩ := E.sl i _ hs0
    obtain ⟨kvs, es', rfl, rfl, r1⟩ := dok_K h4 hw.1
    have raw : H ad = some (.dK kvs) := by
      rcases co_dct h3 rfl with z | ⟨od, z⟩
      · exact z
      · have := E.nf _ _ _ h2 z
        cases this
    refine ⟨.ref ad, h1, ad, kvs, rfl, raw, fun H' p ts k1 k2 k3 k4 k5 k6 => ?_⟩
    have hle : Lh H (rm H' p) := Lh.of fun b u e => by rw [rm_ne (fun z => by rw [z, k2] at e; cases e)]; exact k1 b u e
    have E2 := E.xe hle
    have hp : rm H' p p = none := rm_at
    have tv : ∀ t ∈ ts, ∀ xs, H' t = some (.tup xs) → vw D0 o (co (rm H' p)) t = some (.tup xs) := fun t ht xs e => by
      have hne : t ≠ p := fun z => k4 (z ▸ ht)
      have hc : co (rm H' p) t = some (.tup xs) := co_of (H := rm H' p) (u := .tup xs) (by rw [rm_ne hne]; exact e)
      exact tup_vw E2 hc
    have pr : Paired (fun (t : Addr) (q : Key × V) => vw D0 o (co (rm H' p)) t = some (.tup [kV q.1, q.2])) ts kvs :=
      paired_in k6 fun t ht q e => tv t ht _ e
    have r2 : RpAll (vw D0 o (co (rm H' p))) (ts.map V.ref) (itemsD ((.none, .none) :: es')) := rp_itemsK pr (r1.mono (XE.of hle).vw)
    have e : upd (rm H' p) p (.lst (ts.map V.ref)) = H' := upd_rm k5
    have := kk _ _ S _ p (rm H' p) hw.2 E2 (XE.of hle) hp ⟨r2.mono vw_le_vt, fun _ => r2⟩
    rw [e] at this
    exact this
  · exact hw.elim
end
end Pu

namespace Pu
open PySem L2
section
variable {X : Cx} {W : WM} {k : Nat} {pos : Pos}
/-! ### for .. in e.items(), e a dict that the walk locks, and unlocks behind the loop -/
def NoFz (X : Cx) (d : Addr) : Prop := ∀ od u, X.H_0 d ≠ some (.frz od u)
def unl (X : Cx) (D : Ends) : Ends where
  nx := fun σ H => D.nx σ H ∨ ∃ d od u, NoFz X d ∧ H d = some (.frz od u) ∧ D.nx σ (upd H d u)
  rt := fun v H => D.rt v H ∨ ∃ d od u, NoFz X d ∧ H d = some (.frz od u) ∧ D.rt v (upd H d u)
  bk := fun σ H => D.bk σ H ∨ ∃ d od u, NoFz X d ∧ H d = some (.frz od u) ∧ D.bk σ (upd H d u)
  ct := fun σ H => D.ct σ H ∨ ∃ d od u, NoFz X d ∧ H d = some (.frz od u) ∧ D.ct σ (upd H d u)
theorem ps_unl {st : Stmt} {t : TS} (h : PS X st t) : PS X st (fun D σ H => t (unl X D) σ H) := by
  refine ⟨fun pins s σ H D I hw => ?_⟩
  refine thn (h.run pins s σ H _ I hw) fun f s1 q => ?_
  cases f with
  | next =>
    obtain ⟨σ', H', I2, q⟩ := q
    rcases q with q | ⟨d, od, u, hn, e, q⟩
    · exact ⟨σ', H', I2, q⟩
    · exact ⟨σ', _, I2.unlock e hn, q⟩
  | brk =>
    obtain ⟨σ', H', I2, q⟩ := q
    rcases q with q | ⟨d, od, u, hn, e, q⟩
    · exact ⟨σ', H', I2, q⟩
    · exact ⟨σ', _, I2.unlock e hn, q⟩
  | cont =>
    obtain ⟨σ', H', I2, q⟩ := q
    rcases q with q | ⟨d, od, u, hn, e, q⟩
    · exact ⟨σ', H', I2, q⟩
    · exact ⟨σ', _, I2.unlock e hn, q⟩
  | ret v =>
    obtain ⟨x, σ', H', I2, r, q⟩ := q
    rcases q with q | ⟨d, od, u, hn, e, q⟩
    · exact ⟨x, σ', H', I2, r, q⟩
    · exact ⟨x, σ', _, I2.unlock e hn, r, q⟩
def tLk (X : Cx) (te : TE) : TE := fun σ H Q => te σ H fun x H1 => Q x H1 ∨ ∃ d u, x = .ref d ∧ H1 d = some u ∧ Mut (some u) ∧ ∀ od, NoFz X d → Q x (upd H1 d (.frz od u))
theorem pe_lk {e : Expr} {te : TE} (h : PE X e te) : PE X e (tLk X te) := by
  refine ⟨fun pins s σ H Q I hw => ?_⟩
  refine thn (h.run pins s σ H _ I hw) fun v s1 ⟨x, H1, I2, r, q⟩ => ?_
  rcases q with q | ⟨d, u, ex, hd, mu, q⟩
  · exact ⟨x, H1, I2, r, q⟩
  · obtain ⟨od, I3⟩ := I2.lock hd mu
    exact ⟨x, _, I3, r, q od (I2.nofrz hd mu)⟩
def zI (a : Addr) (od : Obj) (kvs : List (Key × V)) (es : Es) : (Addr → Bool) → Ow → Hp → Prop := fun D0 o H => H a = some (.frz od (.dK kvs)) ∧ o a = none ∧ RpK (vw D0 o (co H)) kvs es
theorem RpK.at {G : Hp} : ∀ {kvs : List (Key × V)} {es : Es} {i : Nat} {k : Key} {v : V}, RpK G kvs es → kvs[i]? = some (k, v) → ∃ d, es[i]? = some (keyD k, d) ∧ Rp G v d
  | _, _, _, _, _, .nil, h => by simp at h
  | _, _, 0, _, _, .cons a _, h => by
    cases (Option.some.inj h)
    exact ⟨_, rfl, a⟩
  | _, _, i + 1, _, _, .cons _ b, h => b.at (i := i) h
theorem wk_I [Tbs] {a : Addr} {od : Obj} {kvs : List (Key × V)} {es : Es} : Wk (Iti a od kvs) (es.map fun e => PyData.tuple [e.1, e.2]) True (zI a od kvs es) where
  go := fun D0 o H i z hi => ⟨z.1, by rw [List.length_map, ← z.2.2.length] at hi; exact hi⟩
  stop := fun D0 o H z => ⟨z.1, by rw [List.length_map, ← z.2.2.length]; exact Nat.le_refl _⟩
  yld := fun D0 S σ o H i x H' d z E hd y => by
    obtain ⟨T, k, v, hk, rfl, hT, rfl⟩ := y
    obtain ⟨d', h1, h2⟩ := z.2.2.at hk
    rw [List.getElem?_map, h1] at hd
    cases hd
    have V1 : Vals' D0 o H [kV k, v] [keyD k, d'] True := by
      have r : RpAll (vw D0 o (co H)) [kV k, v] [keyD k, d'] := .cons (rp_key k) (.cons h2 .nil)
      exact ⟨r.mono vw_le_vt, fun _ => r⟩
    exact ⟨Lh.new hT, Val.newT E hT V1⟩
  xe := fun D0 D0' o H H' z l _ h => ⟨l _ _ _ z.2.1 z.1, z.2.1, z.2.2.mono h⟩
  fr := fun D0 o H o' H' _ z f h => ⟨(f _ _ z.2.1 z.1 rfl).1, (f _ _ z.2.1 z.1 rfl).2, z.2.2.mono h⟩
def wForIt (we : WEx) (wg : WTg) (wb : WS) : WS := fun S P => we S (fun d c S1 => match d with
  | .dict es => isMk es = true ∧ c ∧ forL wg wb True { P with ex := noX } (itemsD es) S1
  | _ => False) P.ex
theorem ss_forIt [Tbs] {elts : List Expr} {kk : Nat} {tpos ap cp : Pos} {e : Expr} {body : List Stmt} {L : List Nat} {we : WEx} {wg : WTg} {wb : WS} (a : At X W k) (he : SE X W e we) (hg : SG X (.Tuple elts kk tpos) L wg) (hb : SSs X W body wb)
    (hbase : attributeBase e "items" X.env (eval e X.env) = eval e X.env := by rfl) (hline : (ap.endLine == cp.line) = true := by rfl)
    (hs : ∀ y, foldedSetIterable (.Call (.Attribute e "items" ap) [] [] cp) X.env y = pure y := by intro _; rfl) : SS X W (.For (.Tuple elts kk tpos) (.Call (.Attribute e "items" ap) [] [] cp) body [] pos) (wForIt we wg wb) := by
  obtain ⟨te, pe, se⟩ := he.ex
  obtain ⟨gg, pg, sg⟩ := hg.ex
  obtain ⟨tb, pb, sb⟩ := hb.ex
  refine ⟨_, ps_unl (ps_for (pos := pos) a.po a.calm (pi_items (elts := elts) (kk := kk) (tpos := tpos) (pe_lk pe) hbase hline) pg pb hs), ?_⟩
  intro D0 S0 σ H0 o P D E0 hw g0
  refine se D0 S0 σ H0 o _ P.ex _ E0 hw (fun d c S v H h1 E x1 V1 => ?_) g0.xw
  have g := g0.on x1.fr
  split at h1
  · rename_i es
    obtain ⟨hm, hc, hf⟩ := h1
    obtain ⟨ad, u, rfl, hvw, dk⟩ := (V1.2 hc).dok
    obtain ⟨kvs, es', rfl, rfl, r⟩ := dok_K dk hm
    obtain ⟨hD, ho⟩ := vw_no hvw
    have hq : itemsD ((.none, .none) :: es') = es'.map fun e => PyData.tuple [e.1, e.2] := rfl
    rw [hq] at hf
    rcases co_dct (vw_le _ _ hvw) rfl with hraw | ⟨od, hraw⟩
    · right
      refine ⟨ad, _, rfl, hraw, trivial, fun od hn => ⟨ad, od, kvs, rfl, upd_same, ?_⟩⟩
      have hco : co (upd H ad (.frz od (.dK kvs))) = co H := co_lock hraw rfl rfl
      refine for_core sg sb wk_I trivial ⟨upd_same, ho, by rw [hco]; exact r⟩ (E.lock hraw ho rfl rfl) hf ?_
      refine ⟨fun S' σ' H' o' h E' f => ?_, fun S' σ' H' o' h E' f => ?_, fun S' σ' H' o' h E' f => ?_, fun d c S' v σ' H' o' h E' f V => ?_, fun _ _ _ _ _ _ _ h => h.elim⟩
      · obtain ⟨h1, h2, h3⟩ := f.unlock hraw ho
        exact .inr ⟨ad, od, _, hn, h1, g.nx S' σ' _ o' h (E'.unlock h1 h2 rfl rfl) h3⟩
      · obtain ⟨h1, h2, h3⟩ := f.unlock hraw ho
        exact .inr ⟨ad, od, _, hn, h1, g.bk S' σ' _ o' h (E'.unlock h1 h2 rfl rfl) h3⟩
      · obtain ⟨h1, h2, h3⟩ := f.unlock hraw ho
        exact .inr ⟨ad, od, _, hn, h1, g.ct S' σ' _ o' h (E'.unlock h1 h2 rfl rfl) h3⟩
      · obtain ⟨h1, h2, h3⟩ := f.unlock hraw ho
        exact .inr ⟨ad, od, _, hn, h1, g.rt d c S' v σ' _ o' h (E'.unlock h1 h2 rfl rfl) h3 (V.reco (co_unlock h1 rfl rfl))⟩
    · left
      refine ⟨ad, od, kvs, rfl, hraw, for_core sg sb wk_I trivial ⟨hraw, ho, r⟩ E hf ?_⟩
      exact ⟨fun S' σ' H' o' h E' f => .inl (g.nx _ _ _ _ h E' f), fun S' σ' H' o' h E' f => .inl (g.bk _ _ _ _ h E' f), fun S' σ' H' o' h E' f => .inl (g.ct _ _ _ _ h E' f), fun d c S' v σ' H' o' h E' f V => .inl (g.rt _ _ _ _ _ _ _ h E' f V), fun _ _ _ _ _ _ _ h => h.elim⟩
  · exact h1.elim
end
end Pu

namespace Pu
open PySem L2
section
variable {X : Cx} {W : WM} {k : Nat} {pos : Pos}
/-! ### sorted(set(xs)), xs fewer than 64 tuples of so many ints each -/
def dI (h : List Int) : PyData := .tuple (h.map .int)
theorem rp_keysI {G : Hp} : ∀ {hs : List (List Int)} {vs : List V}, RpAll G vs (hs.map dI) → ∃ ks : List (Addr × List Int), vs = ks.map (fun p => V.ref p.1) ∧ hs = ks.map (·.2) ∧ ∀ p ∈ ks, G p.1 = some (.tup (p.2.map V.int))
  | [], _, .nil => ⟨[], rfl, rfl, fun p hp => nomatch hp⟩
  | h :: hs, _, .cons a b => by
    obtain ⟨ks, rfl, rfl, hk⟩ := rp_keysI b
    cases a with
    | tup e r =>
      rename_i ad _
      rw [r.ints] at e
      refine ⟨(ad, h) :: ks, rfl, rfl, fun p hp => ?_⟩
      rcases List.mem_cons.mp hp with z | z
      · subst z; exact e
      · exact hk p z
def wSortSet (we : WEx) : WLs := fun S A B => we S (fun d c S1 => match d with
  | .list xs => ∃ (hs : List (List Int)) (n : Nat) (b : Int), xs = hs.map dI ∧ hs.length < 64 ∧ 1 ≤ n ∧ (∀ h ∈ hs, h.length = n ∧ TS.Bd b h) ∧
    ∀ ys : List (List Int), ys.Nodup → (∀ y, y ∈ ys ↔ y ∈ hs) → ys.Pairwise (fun p q => TS.code b p ≤ TS.code b q) → A (ys.map dI) True S1
  | _ => False) B
theorem so_sortSet [Tbs] {e : Expr} {p p2 pos2 : Pos} {we : WEx} (a : At X W k) (he : SE X W e we) (hm : X.mg "sorted" = none) (hm2 : X.mg "set" = none) (hg : Gl X "sorted" := by rfl) (hg2 : Gl X "set" := by rfl)
    (h1 : starEach [e] X.env = (false, eval e X.env) :: starEach [] X.env := by rfl) (h2 : (backTo pos2 (starEach [] X.env)).any (·.1) = false := by rfl)
    (h3 : starEach [.Call (.Name "set" p2) [e] [] pos2] X.env = (false, eval (.Call (.Name "set" p2) [e] [] pos2) X.env) :: starEach [] X.env := by rfl) (h4 : (backTo pos (starEach [] X.env)).any (·.1) = false := by rfl) :
    SO X W (.Call (.Name "sorted" p) [.Call (.Name "set" p2) [e] [] pos2] [] pos) (wSortSet we) := by
  obtain ⟨te, pe, se⟩ := he.ex
  refine ⟨_, pe_callB (cr_sortedT a.calm) hg hm bb_sorted (pa_cons (pe_callTy (cr_setOfT a.calm a.u64) hg2 hm2 (by decide +kernel) (pa_cons pe pa_nil h1) (by decide) (by decide) h1 h2) pa_nil h3) (by decide) (by decide) h3 h4, ?_⟩
  intro D0 S σ H o A B Q E hw kk kx
  refine se D0 S σ H o _ B _ E hw (fun d c S1 v H1 q1 E1 x1 V1 => ?_) kx
  split at q1
  · obtain ⟨hs, n, b, rfl, hz, hn, hB, q1⟩ := q1
    obtain ⟨ad, vs, rfl, ea, ra, ca⟩ := V1.items E1
    obtain ⟨ks, rfl, rfl, hk⟩ := rp_keysI ra
    rw [List.length_map] at hz
    refine ⟨ad, ks, rfl, SqL.at ea, fun q hq => SqT.at (co_tup (vt_le _ _ (hk q hq))), hz, fun s L hs' hL hc => ?_⟩
    have le : Lh H1 (upd H1 s (SetTO X.prog X.w s L)) := Lh.new hs'
    refine ⟨s, L, n, b, rfl, upd_same, fun q hq => SqT.at (le.at (co_tup (vt_le _ _ (hk q (hL q hq))))), hn, fun q hq => hB q.2 (List.mem_map.mpr ⟨q, hL q hq, rfl⟩), fun L' r pm nd _ pw hr => ?_⟩
    have E2 := E1.xe le
    have mem : ∀ y, y ∈ L'.map (·.2) ↔ y ∈ ks.map (·.2) := fun y => by
      constructor
      · intro hy
        obtain ⟨q, hq, rfl⟩ := List.mem_map.mp hy
        exact List.mem_map.mpr ⟨q, hL q (pm.mem_iff.mp hq), rfl⟩
      · intro hy
        obtain ⟨q, hq, rfl⟩ := List.mem_map.mp hy
        obtain ⟨q', hq', e⟩ := List.mem_map.mp (hc q hq)
        exact List.mem_map.mpr ⟨q', pm.mem_iff.mpr hq', e⟩
    have rr : RpAll (vw D0 o (co (upd H1 s (SetTO X.prog X.w s L)))) (L'.map fun q => V.ref q.1) ((L'.map (·.2)).map dI) := by
      have all : ∀ l : List (Addr × List Int), (∀ q ∈ l, q ∈ ks) → RpAll (vw D0 o (co (upd H1 s (SetTO X.prog X.w s L)))) (l.map fun q => V.ref q.1) ((l.map (·.2)).map dI) := by
        intro l
        induction l with
        | nil => intro _; exact .nil
        | cons q l ih =>
          intro h
          refine .cons (.tup ?_ (RpAll.of_ints _)) (ih fun q hq => h q (List.mem_cons_of_mem _ hq))
          exact tup_vw E2 (co_of (le.at (co_tup (vt_le _ _ (hk q (h q List.mem_cons_self))))))
      exact all L' fun q hq => hL q (pm.mem_iff.mp hq)
    exact kk _ _ S1 _ r _ (q1 (L'.map (·.2)) nd mem (List.pairwise_map.mpr pw)) E2 (x1.trans (XE.of le)) hr ⟨rr.mono vw_le_vt, fun _ => rr⟩
  · exact q1.elim
end
end Pu

namespace Pu
open PySem L2
section
variable {X : Cx} {W : WM} {k : Nat} {pos : Pos}
/-- a def's promise is used -/
theorem spOf_use [Tbs] {n : Nat} {sp : Spc} {D0 : Addr → Bool} {S1 : Slots} {σ : St} {H1 : Hp} {o : Ow} {vs : List V} {ds : List PyData} {c : Prop} {A : PyData → Prop → Slots → Prop} {B : EK} {Q : VK} (a : At X W k) (E1 : Env D0 S1 σ H1 o) (V1 : Vals' D0 o H1 vs ds c) (hl : ds.length = n)
    (h1 : sp ds (fun d => A d c S1) (fun x => B x S1)) (kk : ∀ d c' S' v H', A d c' S' → Env D0 S' σ H' o → XE o H1 H' → Val D0 o H' v d c' → Q v H') (kx : Xw W D0 σ o H1 B) : spOf X.mg n sp vs H1 Q (WE W.w σ) := by
  have ex : ∀ x cls dd H', B x S1 → Lh H1 H' → XOk X.mg H' x cls dd → W.w cls dd σ H' := fun x cls dd H' hx le ok => kx x S1 cls dd H' hx (E1.xe le) (XE.of le) (by rw [a.mq]; exact ok)
  by_cases hc : c
  · refine ⟨E1.tb, ds, fun a => D0 a || (o a).isSome, _, _, hl, E1.deadV, V1.2 hc, h1, fun d v H' hd le r => ?_, fun x cls dd H' hx le ok => ex x cls dd H' hx le ok⟩
    exact kk d c S1 v H' hd (E1.xe le) (XE.of le) ⟨Rp.mono vw_le_vt r, fun _ => r⟩
  · refine ⟨E1.tb, ds, fun a => D0 a || mutO (o a), _, _, hl, E1.deadM, V1.1, h1, fun d v H' hd le r => ?_, fun x cls dd H' hx le ok => ex x cls dd H' hx le ok⟩
    exact kk d c S1 v H' hd (E1.xe le) (XE.of le) ⟨r, fun z => absurd z hc⟩
/-! ### [f, g, ..][e](..) -/
structure FnA [Tbs] (X : Cx) (k n : Nat) (q : Addr × Spc) : Prop where
  ex : ∃ (fd : FuncData) (ps : List Str), FnOk X.prog X.w X.K X.mg X.base (L2.CX X.prog X.w) k q.1 fd ps (spOf X.mg n q.2) ∧ PySem.W.keepIn X.K (.ref q.1) = true ∧ Binds X.K fd ps [] ∧ ps.length = n
/-- the names es, their promises sps -/
structure SFs [Tbs] (X : Cx) (k n : Nat) (es : List Expr) (sps : List Spc) : Prop where
  ex : ∃ as : List (Addr × Spc), as.map (·.2) = sps ∧ (∀ q ∈ as, FnA X k n q) ∧ PA X es (fun _ H Q => Q (as.map fun q => V.ref q.1) H)
theorem sf_nil [Tbs] {n : Nat} : SFs X k n [] [] := ⟨[], rfl, fun q hq => (nomatch hq), pa_nil⟩
theorem sf_cons [Tbs] {j n : Nat} {x : Str} {p : Pos} {sp : Spc} {es : List Expr} {sps : List Spc} (F : Def X.prog X.w X.K X.mg X.base j x n (spOf X.mg n sp)) (hj : j ≤ k) (h : SFs X k n es sps) (hg : Gl X x := by rfl) (hdb : (x == ("__debug__" : Str)) = false := by decide)
    (hs : starEach (.Name x p :: es) X.env = (false, eval (.Name x p) X.env) :: starEach es X.env := by rfl) : SFs X k n (.Name x p :: es) (sp :: sps) := by
  obtain ⟨f, fd, ps, G, hm, hk, hb, hps⟩ := F.ex
  obtain ⟨as, h1, h2, h3⟩ := h.ex
  refine ⟨(f, sp) :: as, by rw [List.map_cons, h1], fun q hq => ?_, ?_⟩
  · rcases List.mem_cons.mp hq with z | z
    · subst z; exact ⟨fd, ps, G.mono hj, hk, hb, hps⟩
    · exact h2 q z
  · exact pa_cons (pe_glob hg hm (v := .ref f) rfl hdb) h3 hs
def tCallIx [Tbs] (K : PySem.W.Frag) (as : List (Addr × Spc)) (mg : Str → Option Value) (n : Nat) (E : St → XK) (te : TE) (ta : TA) : TE := fun σ H Q => (as.map fun q => V.ref q.1).length ≤ sizeLine ∧ ∀ p, H p = none → te σ (upd H p (.lst (as.map fun q => V.ref q.1))) fun y H1 => rIx K (.ref p) y H1 fun v H2 => ∃ q ∈ as, v = .ref q.1 ∧ ta σ H2 fun vs H3 => spOf mg n q.2 vs H3 Q (E σ)
theorem atI_map {α β : Type} {f : α → β} {as : List α} {i : Int} {q : α} (h : atI as i = some q) : atI (as.map f) i = some (f q) := by
  unfold atI at h ⊢
  rw [List.length_map]
  cases e : ixN as.length i with
  | none => rw [e] at h; cases h
  | some j =>
    rw [e] at h
    show (as.map f)[j]? = _
    rw [List.getElem?_map, show as[j]? = some q from h]
    rfl
theorem atI_mem {α : Type} {as : List α} {i : Int} {q : α} (h : atI as i = some q) : q ∈ as := by
  unfold atI at h
  cases e : ixN as.length i with
  | none => rw [e] at h; cases h
  | some j =>
    rw [e] at h
    exact List.mem_of_getElem? (show as[j]? = some q from h)
theorem pe_callIx [Tbs] {n : Nat} {es args : List Expr} {e0 e : Expr} {p1 p2 : Pos} {as : List (Addr × Spc)} {te : TE} {ta : TA} {E : St → XK} (hr : Room k X.A) (hx : ∀ σ, PassesAt (L2.CX X.prog X.w) X σ (E σ)) (hF : ∀ q ∈ as, FnA X k n q) (pa : PA X es (fun _ H Q => Q (as.map fun q => V.ref q.1) H)) (pe : PE X e te) (hs : PlainIx e)
    (pr : PA X (e0 :: args) ta) (he : starEach (e0 :: args) X.env = (false, eval e0 X.env) :: starEach args X.env) (hpl : (backTo pos (starEach args X.env)).any (·.1) = false) :
    PE X (.Call (.Subscript (.List es p1) e p2) (e0 :: args) [] pos) (tCallIx X.K as X.mg n E te ta) := by
  refine ⟨fun pins s σ H Q J hq => ?_⟩
  refine wpAny_bind (m := eval (.Subscript (.List es p1) e p2) X.env) (thn ((pe_ix (pos := p2) ix_seq (pe_lst (pos := p1) pa) pe hs).run pins s σ H _ J hq) fun v s1 ⟨x, H1, I1, rx, q, hqa, ex, h1⟩ => ?_)
  subst ex
  obtain rfl : v = Value.ref q.1 := rx
  obtain ⟨fd, ps, F, hk, hb, _⟩ := (hF q hqa).ex
  refine PySem.W.callWith_K (f := .ref q.1) (h₀ := X.base) I1.ok.mod.kin hk (thn (pr.run pos pins s1 σ H1 _ I1 h1) fun us s2 ⟨vs, H2, I2, r2, q2⟩ => ⟨I2.kIn, ?_⟩) he hpl
  exact run_fnS F hr hb (hx σ) I2 r2 q2
theorem pe_callIx0 [Tbs] {n : Nat} {es : List Expr} {e : Expr} {p1 p2 : Pos} {as : List (Addr × Spc)} {te : TE} {E : St → XK} (hr : Room k X.A) (hx : ∀ σ, PassesAt (L2.CX X.prog X.w) X σ (E σ)) (hF : ∀ q ∈ as, FnA X k n q) (pa : PA X es (fun _ H Q => Q (as.map fun q => V.ref q.1) H)) (pe : PE X e te) (hs : PlainIx e) :
    PE X (.Call (.Subscript (.List es p1) e p2) [] [] pos) (tCallIx X.K as X.mg n E te tNil) := by
  refine ⟨fun pins s σ H Q J hq => ?_⟩
  refine wpAny_bind (m := eval (.Subscript (.List es p1) e p2) X.env) (thn ((pe_ix (pos := p2) ix_seq (pe_lst (pos := p1) pa) pe hs).run pins s σ H _ J hq) fun v s1 ⟨x, H1, I1, rx, q, hqa, ex, h1⟩ => ?_)
  subst ex
  obtain rfl : v = Value.ref q.1 := rx
  obtain ⟨fd, ps, F, hk, hb, _⟩ := (hF q hqa).ex
  exact PySem.W.callWith_K0 I1.kIn hk (run_fnS F hr hb (hx σ) I1 .nil h1)
def wCallIx (sps : List Spc) (we : WEx) (wa : WLs) : WEx := fun S A B => we S (fun d _ S1 => match d with
  | .int i => ∃ sp, atI sps i = some sp ∧ wa S1 (fun ds c S2 => sp ds (fun d => A d c S2) (fun x => B x S2)) B
  | _ => False) B
theorem atI_ofmap {α β : Type} {f : α → β} {as : List α} {i : Int} {b : β} (h : atI (as.map f) i = some b) : ∃ q, atI as i = some q ∧ f q = b := by
  unfold atI at h ⊢
  rw [List.length_map] at h
  cases e : ixN as.length i with
  | none => rw [e] at h; cases h
  | some j =>
    rw [e] at h
    have h : (as.map f)[j]? = some b := h
    rw [List.getElem?_map] at h
    cases e2 : as[j]? with
    | none => rw [e2] at h; cases h
    | some q =>
      rw [e2] at h
      exact ⟨q, e2, Option.some.inj h⟩
theorem snd_callIx [Tbs] {n m : Nat} {as : List (Addr × Spc)} {te : TE} {ta : TA} {we : WEx} {wa : WLs} (a : At X W k) (hz : as.length ≤ 100) (se : Snd W te we) (sa : SndA W ta n wa) : Snd W (tCallIx X.K as X.mg n (WE W.w) te ta) (wCallIx (as.map (·.2)) we wa) := by
  intro D0 S σ H o A B Q E hw kk kx
  refine ⟨by rw [List.length_map]; have : sizeLine = 16777216 := by decide
             omega, fun p hp => ?_⟩
  have le : Lh H (upd H p (.lst (as.map fun q => V.ref q.1))) := Lh.new hp
  have hno : o p = none := by
    cases z : o p with
    | none => rfl
    | some r =>
      obtain ⟨_, u, h1, _⟩ := E.live p r z
      rw [co_non hp] at h1
      cases h1
  refine se D0 S σ _ o _ B _ (E.xe le) hw (fun d c S1 y H1 h1 E1 x1 V1 => ?_) (kx.on (XE.of le))
  have hp1 : H1 p = some (.lst (as.map fun q => V.ref q.1)) := x1 p _ (by rw [hno]; rfl) upd_same rfl
  split at h1
  · rename_i i
    obtain ⟨sp, hsp, h1⟩ := h1
    obtain ⟨q, hq, rfl⟩ := atI_ofmap hsp
    cases V1.1
    refine .inl ⟨p, _, i, .ref q.1, rfl, rfl, SqL.at hp1, atI_map (f := fun q : Addr × Spc => V.ref q.1) hq, q, atI_mem hq, rfl, ?_⟩
    refine sa D0 S1 σ H1 o _ B _ E1 h1 (fun ds c2 S2 vs H2 hl h2 E2 x2 V2 => ?_) (kx.on ((XE.of le).trans x1))
    exact spOf_use a E2 V2 hl h2 (fun d c' S' v H' hA E' x' V' => kk d c' S' v H' hA E' (((XE.of le).trans x1).trans (x2.trans x')) V') (kx.on (((XE.of le).trans x1).trans x2))
  · exact h1.elim
theorem se_callIx [Tbs] {es args : List Expr} {e0 e : Expr} {p1 p2 : Pos} {sps : List Spc} {we : WEx} {wa : WLs} (a : At X W k) (h : SFs X k (e0 :: args).length es sps) (hi : SE X W e we) (ha : SA X W (e0 :: args) wa) (hz : sps.length ≤ 100 := by decide) (hs : PlainIx e := by exact fun _ _ => rfl)
    (he : starEach (e0 :: args) X.env = (false, eval e0 X.env) :: starEach args X.env := by rfl) (hpl : (backTo pos (starEach args X.env)).any (·.1) = false := by rfl) :
    SE X W (.Call (.Subscript (.List es p1) e p2) (e0 :: args) [] pos) (wCallIx sps we wa) := by
  obtain ⟨as, rfl, hF, pa⟩ := h.ex
  obtain ⟨te, pe, se⟩ := hi.ex
  obtain ⟨ta, pr, sa⟩ := ha.ex
  rw [List.length_map] at hz
  exact ⟨_, pe_callIx a.room a.tk hF pa pe hs pr he hpl, snd_callIx (m := 0) a hz se sa⟩
theorem se_callIx0 [Tbs] {es : List Expr} {e : Expr} {p1 p2 : Pos} {sps : List Spc} {we : WEx} (a : At X W k) (h : SFs X k 0 es sps) (hi : SE X W e we) (hz : sps.length ≤ 100 := by decide) (hs : PlainIx e := by exact fun _ _ => rfl) :
    SE X W (.Call (.Subscript (.List es p1) e p2) [] [] pos) (wCallIx sps we wNil) := by
  obtain ⟨as, rfl, hF, pa⟩ := h.ex
  obtain ⟨te, pe, se⟩ := hi.ex
  obtain ⟨ta, pr, sa⟩ := (sa_nil (X := X) (W := W)).ex
  rw [List.length_map] at hz
  refine ⟨_, pe_callIx0 a.room a.tk hF pa pe hs, snd_callIx (m := 0) a hz se ?_⟩
  intro D0 S σ H o A B Q E hw kk kx
  exact kk [] _ _ [] H rfl hw E (XE.refl o H) ⟨.nil, fun _ => .nil⟩
end
end Pu

namespace Pu
open PySem L2
section
variable {X : Cx} {W : WM} {k : Nat} {pos : Pos}
/-! ### sorted(t), t a tuple -/
def leI (a b : Int) : Bool := decide (a ≤ b)
def rSortedTI : List V → Hp → VK → Prop := fun vs H Q => ∃ (a : Addr) (ns : List Int), vs = [V.ref a] ∧ H a = some (.tup (ns.map V.int)) ∧ ∀ p, H p = none → Q (.ref p) (upd H p (.lst ((ns.mergeSort leI).map V.int)))
theorem each_int : ∀ {ns : List Int} {us : List Value}, Vals (ns.map V.int) us → PySem.W.EachIs (fun u n => RelV (.int n) u) us ns
  | [], _, .nil => .nil
  | n :: r, _, .cons a b => .cons a (each_int b)
theorem int_each : ∀ {ns : List Int} {us : List Value}, PySem.W.EachIs (fun u n => RelV (.int n) u) us ns → Vals (ns.map V.int) us
  | [], _, .nil => .nil
  | n :: r, _, .cons a b => .cons a (int_each b)
theorem cr_sortedTI (a : At X W k) : CallR X (.builtin "sorted") rSortedTI := by
  intro pins s σ H vs us Q I r h
  obtain ⟨t, ns, rfl, ht, q⟩ := h
  rw [Vals.ref1 r]
  obtain ⟨its, rv, ⟨o, ho, hcl, n, hd⟩, hz⟩ := I.tuple (SqT.at ht)
  have hz2 : its.length ≤ sizeLine := by
    have := rv.length
    rw [List.length_map] at this hz
    omega
  refine Calls.call_function_entry PyProof.Rows.kind_sorted PyProof.Rows.plain_sorted PyProof.Rows.entry_sorted (PyProof.Rows.args_sorted1 _) ?_
  unfold Builtin.«sorted»
  refine wpAny_bind (m := checkCount "sorted" 1 1 _) (wpAny_pure ?_)
  refine wpAny_bind (wpAny_collect_seq t (.inr rfl) ho hcl hd (fun h' hk => ?_) (by simpa using hz2))
  refine wpAny_bind (wpAny_newList ?_ (by simpa using hz2))
  have e0 : its.toArray.toList = its := by simp
  rw [e0]
  have ea := each_int rv
  refine wpAny_bind (wpAny_holding ?_)
  refine PySem.W.list_sort_data (R := fun u n => RelV (.int n) u) (bs := ns) (enc := fun n => .int n) (n := 0) (Heap.get?_push_size _ rfl) ea (ea.mono fun u n hu => ?_) ?_ ?_ ?_ ?_ fun out hl eo => ?_
  · obtain ⟨tk, rfl⟩ := hu
    exact ⟨[], .int n tk, fun z => by cases z⟩
  · intro d hd d' hd'
    obtain ⟨x, _, rfl⟩ := List.mem_map.mp hd
    obtain ⟨y, _, rfl⟩ := List.mem_map.mp hd'
    rfl
  · refine .inr fun d hd => ?_
    obtain ⟨x, _, rfl⟩ := List.mem_map.mp hd
    exact ⟨fun z => (nomatch z), fun xs z => (nomatch z)⟩
  · rw [List.length_map] at hz
    exact hz
  · intro b hb
    have := a.room.un
    show X.A.units + 1 + 1 + 0 < cLine
    omega
  · have J : L2.Inv X pins σ H { s with heap := h', toks := s.toks } := I.kept hk
    obtain ⟨ep, he⟩ := PyProof.Rows.sortedHeap_at (h := h'.push { cls := .type "list", data := .seq its.toArray }) (a := h'.objs.size) (vs := its) (n := 0) (out := out.toArray) (Heap.get?_push_size _ rfl)
    refine wpAny_pure ⟨_, rfl, .ref h'.objs.size, upd H h'.objs.size (.lst ((ns.mergeSort leI).map V.int)), J.laid (t' := s.toks) (fun b ob e => ?_) (Nat.le_refl _) ⟨?_, out, ep, int_each ?_, he⟩, rfl, q _ (J.hok.fresh (Nat.le_refl _))⟩
    · have hlt := Heap.lt_size e
      rw [PyProof.Rows.sortedHeap_old (Nat.ne_of_lt hlt) (Nat.lt_trans hlt (Heap.lt_size (Heap.get?_push_size (o := { cls := .type "list", data := .seq its.toArray }) h' rfl)))]
      exact Heap.get?_push_of_some _ e
    · rw [List.length_map, List.length_mergeSort]
      rw [List.length_map] at hz
      exact hz
    · rw [PySem.W.dataLe_int (fun n : Int => n)] at eo
      exact eo
def gSortedT : RDL := fun ds _ K => match ds with
  | [.tuple xs] => ∃ ns, ints? xs = some ns ∧ K ((ns.mergeSort leI).map .int) True
  | _ => False
theorem fo_sortedT [Tbs] (a : At X W k) : FnO X (.builtin "sorted") gSortedT := by
  refine ⟨_, cr_sortedTI a, ?_⟩
  intro D0 S σ o H vs ds c K Q E V hg kk
  unfold gSortedT at hg
  split at hg
  · obtain ⟨v, rfl, U⟩ := vals1 V
    obtain ⟨ns, hi, hg⟩ := hg
    obtain ⟨p, ws, rfl, e, r⟩ := rp_tup U.1
    rw [ints?_of hi] at r
    rw [r.ints] at e
    exact ⟨p, ns, rfl, co_tup (vt_le _ _ e), fun q hq => kk _ _ _ q H hg (Lh.refl H) hq ⟨RpAll.of_ints _, fun _ => RpAll.of_ints _⟩⟩
  · exact hg.elim
/-! ### a table of texts of the module, by place -/
structure TabT (K : PySem.W.Frag) (mg : Str → Option Value) (x : Str) (ws : List Str) : Prop where
  ex : ∃ (a : Addr) (o : Obj) (its : Array Value) (n : Nat), mg x = some (.ref a) ∧ K.lookup a = some o ∧ o.cls = .type "tuple" ∧ o.data = .seq its n ∧ its.size ≤ sizeLine ∧ Vals (ws.map V.str) its.toList
def wTabIx (ws : List Str) (we : WEx) : WEx := fun S A B => we S (fun d _ S1 => match d with
  | .int i => ∃ x, atI ws i = some x ∧ A (.str x) True S1
  | _ => False) B
theorem se_tabIx [Tbs] {x : Str} {ws : List Str} {p : Pos} {e : Expr} {we : WEx} (hT : TabT X.K X.mg x ws) (he : SE X W e we) (hs : PlainIx e := by exact fun _ _ => rfl) (hg : Gl X x := by rfl) (hd : (x == ("__debug__" : Str)) = false := by decide) : SE X W (.Subscript (.Name x p) e pos) (wTabIx ws we) := by
  obtain ⟨a, o, its, n, hm, hl, hc, hdt, hz, hv⟩ := hT.ex
  obtain ⟨te, pe, se⟩ := he.ex
  refine ⟨_, pe_ix ix_seq (pe_glob hg hm (v := .ref a) rfl hd) pe hs, ?_⟩
  intro D0 S σ H o' A B Q E hw kk kx
  refine se D0 S σ H o' _ B _ E hw (fun d c S1 y H1 h1 E1 x1 V1 => ?_) kx
  split at h1
  · obtain ⟨z, hz', h1⟩ := h1
    cases V1.1
    exact .inr (.inl ⟨a, _, _, .str z, rfl, rfl, .inr ⟨o, its, n, hl, hc, hdt, hz, hv⟩, atI_map hz', kk _ _ S1 _ H1 h1 E1 x1 (Val.of (.str z))⟩)
  · exact h1.elim
end
/-- a def that promises nothing -/
theorem def_none [Tbs] {P : Program} {w : World} {K : PySem.W.Frag} {mg : Str → Option Value} {base : Heap} {f : Addr} {fd : FuncData} {ps : List Str} {k : Nat} {sp : Spc} (h : ∀ ds A B, ¬ sp ds A B) : FnOk P w K mg base (L2.CX P w) k f fd ps (spOf mg ps.length sp) :=
  ⟨fun vs H Q E q => spOf_len q, fun A outer s H args us vs Q E hr he hb hv hs => by
    obtain ⟨_, ds, D0, A', B', _, _, _, hsp, _⟩ := hs
    exact absurd hsp (h _ _ _)⟩
end Pu

namespace Pu
open PySem L2

/-! ### deep copies of lists -/
/-- what a heap G holds, less the lists (and dicts ..) that stood in H -/
def nwH (H G : Hp) : Hp := fun a => match H a with
  | none => G a
  | some u => if (isTup u || isTbl u) = true then G a else none
theorem nwH_new {H G : Hp} {a : Addr} (h : H a = none) : nwH H G a = G a := by unfold nwH; rw [h]
theorem nwH_tup {H G : Hp} {a : Addr} {u : HO} (h : H a = some u) (t : (isTup u || isTbl u) = true) : nwH H G a = G a := by
  unfold nwH
  rw [h]
  exact if_pos t
theorem nwH_old {H G : Hp} {a : Addr} {u : HO} (h : H a = some u) (t : (isTup u || isTbl u) = false) : nwH H G a = none := by
  unfold nwH
  rw [h]
  exact if_neg (by rw [t]; exact Bool.false_ne_true)
theorem nt_of {u : HO} (t : (isTup u || isTbl u) = false) : isTbl u = false := by
  cases h : isTbl u with
  | false => rfl
  | true => rw [h, Bool.or_true] at t; cases t
theorem nwH_le {H G : Hp} : Le (nwH H G) G := fun a u e => by
  cases z : H a with
  | none => rw [nwH_new z] at e; exact e
  | some w =>
    cases t : (isTup w || isTbl w) with
    | true => rw [nwH_tup z t] at e; exact e
    | false => rw [nwH_old z t] at e; cases e
/-- the data that may be copied: lists of lists of flat data, m deep -/
def okc : Nat → PyData → Bool
  | 0, _ => false
  | m + 1, .list xs => xs.all (okc m)
  | m + 1, d => flat d
/-- lists are short -/
def szc : Nat → PyData → Bool
  | 0, _ => true
  | m + 1, .list xs => decide (xs.length < sizeLine) && xs.all (szc m)
  | _ + 1, _ => true
def spCopy [Tbs] (m : Nat) : Sp := fun vs H Q _ => TbOk H ∧ ∃ (v : V) (d : PyData) (D0 : Addr → Bool), vs = [v] ∧ (∀ a, D0 a = true → ∃ u, co H a = some u ∧ isTup u = false) ∧ Rp (hid D0 (co H)) v d ∧ okc m d = true ∧ szc m d = true ∧
  ∀ v' H', Lh H H' → Rp (nwH H (hid D0 (co H'))) v' d → Q v' H'
theorem hid_co {D0 : Addr → Bool} {H : Hp} {a : Addr} {u : HO} (h : hid D0 (co H) a = some u) : D0 a = false ∧ co H a = some u := by
  unfold hid at h
  split at h
  · cases h
  · rename_i n
    exact ⟨by simpa using n, h⟩
theorem hid_at {D0 : Addr → Bool} {C : Hp} {a : Addr} {u : HO} (h : D0 a = false) (e : C a = some u) : hid D0 C a = some u := by
  unfold hid
  rw [h]
  exact e
theorem hid_mono [Tbs] {D0 : Addr → Bool} {H H' : Hp} (h : Lh H H') : Le (hid D0 (co H)) (hid D0 (co H')) := fun a u e => by
  obtain ⟨h1, h2⟩ := hid_co e
  exact hid_at h1 (h.co _ _ h2)
theorem flat_typ {d : PyData} (h : typD d ≠ "list") : ∀ m, okc (m + 1) d = true → flat d = true := fun m q => by
  cases d with
  | list xs => exact absurd rfl h
  | _ => exact q
section
variable {X : Cx} {W : WM} {k : Nat} {pos : Pos}
/-- the reading of a call of the copier within its own comprehension -/
def tCp (sp : Sp) (i : Nat) : TE := fun σ H Q => ∃ v, σ[i]? = some (some v) ∧ sp [v] H Q (fun _ _ _ => False)
theorem lc_copy [Tbs] {K : PySem.W.Frag} {σ : St} {H : Hp} {v : V} {ds : List PyData} {D0 : Addr → Bool} {m : Nat} {Q : VK} (hσ0 : σ[0]? = some (some v)) (hd : ∀ a, D0 a = true → ∃ u, co H a = some u ∧ isTup u = false) (r : Rp (hid D0 (co H)) v (.list ds))
    (tb : TbOk H) (h1 : 1 < σ.length) (ho : ∀ x ∈ ds, okc m x = true ∧ szc m x = true) (hz : ds.length < sizeLine) (q : ∀ v' H', Lh H H' → Rp (nwH H (hid D0 (co H'))) v' (.list ds) → Q v' H') :
    tLc (iList K (tVar 0)) (gName 1) tYes (tCp (spCopy m) 1) [1] σ H Q := by
  obtain ⟨a, vs, rfl, ea, ra⟩ := rp_lst r
  obtain ⟨hDa, ea2⟩ := hid_co ea
  have eH := co_lst ea2
  refine ⟨.ref a, hσ0, a, rfl, ⟨vs, SqL.at eH⟩, fun D hD => ?_⟩
  have hDD : D0 D = false := by
    cases z : D0 D with
    | false => rfl
    | true =>
      obtain ⟨u, e, _⟩ := hd D z
      rw [co_non hD] at e
      cases e
  refine ⟨fun i n H' => n = ds.length - i ∧ i ≤ ds.length ∧ ∃ us, H' D = some (.lst us) ∧ us.length = i ∧ Lh H (rm H' D) ∧ RpAll (nwH H (hid D0 (co (rm H' D)))) us (ds.take i),
    ⟨ds.length, by simp, Nat.zero_le _, [], upd_same, rfl, by rw [rm_upd, rm_none hD]; exact Lh.refl _, by simpa using RpAll.nil⟩, ?_⟩
  rintro i n H2 ⟨rfl, hi, us, eD, hl, le2, r2⟩
  have le2' : Lh H H2 := le2.trans (Lh.of rm_le)
  have e2 : H2 a = some (.lst vs) := le2'.at eH
  by_cases hlt : i < ds.length
  · right
    have hiv : i < vs.length := by rw [ra.length]; exact hlt
    refine ⟨⟨vs, vs[i], SqL.at e2, by rw [List.getElem?_eq_getElem hiv]⟩, fun H' => i + 1 ≤ ds.length ∧ ∃ us, H' D = some (.lst us) ∧ us.length = i + 1 ∧ Lh H (rm H' D) ∧ RpAll (nwH H (hid D0 (co (rm H' D)))) us (ds.take (i + 1)),
      fun H' hN => ⟨ds.length - (i + 1), by omega, rfl, hN⟩, fun x H3 hy => ?_⟩
    obtain ⟨rfl, hy⟩ := hy
    have hx := hy vs (SqL.at e2)
    show L2.wipe ((L2.wipe σ [1]).set 1 (some x)) [1] = _ ∧ _
    refine ⟨by show (((σ.set 1 none).set 1 (some x)).set 1 none) = (σ.set 1 none); rw [List.set_set, List.set_set], ?_⟩
    show tCp (spCopy m) 1 _ _ _
    refine ⟨x, ?_, ?_⟩
    · show ((σ.set 1 none).set 1 (some x))[1]? = _
      rw [List.set_set, List.getElem?_set_self h1]
    obtain ⟨y, hy1, ry⟩ := ra.get (List.getElem?_eq_getElem hlt)
    rw [hx] at hy1
    cases hy1
    have hm : ds[i] ∈ ds := List.getElem_mem hlt
    refine ⟨le2'.tb tb, x, ds[i], plus D0 D, rfl, fun b e => ?_, ?_, (ho _ hm).1, (ho _ hm).2, fun v' H' le' r' => ?_⟩
    · by_cases z : b = D
      · subst z
        exact ⟨_, co_of eD, rfl⟩
      · rw [plus_ne z] at e
        obtain ⟨u, h2, h3⟩ := hd b e
        exact ⟨u, le2'.co _ _ h2, h3⟩
    · refine ry.mono fun b u e => ?_
      obtain ⟨h2, h3⟩ := hid_co e
      have ne : b ≠ D := fun z => by
        subst z
        rw [co_non hD] at h3
        cases h3
      exact hid_at (by rw [plus_ne ne]; exact h2) (le2'.co _ _ h3)
    · have eD' : H' D = some (.lst us) := le'.at eD
      have ler : Lh (rm H3 D) (rm H' D) := ⟨fun b u e nt => by
        unfold rm at e ⊢
        split at e
        · cases e
        · rename_i n
          rw [if_neg n]
          exact le'.k _ _ e nt, fun t => (le'.tb (t.ext rm_le)).but fun b u e y => by
          rw [rm_ne (fun z => by rw [z, eD'] at e; cases e; cases y)]
          exact e⟩
      refine ⟨us, eD', by omega, hlt, us ++ [v'], upd_same, by simp [hl], by rw [rm_upd]; exact le2.trans ler, ?_⟩
      rw [rm_upd, List.take_succ, List.getElem?_eq_getElem hlt]
      refine (r2.mono fun b u e => ?_).append (.cons (r'.mono fun b u e => ?_) .nil)
      · cases z : H b with
        | none => rw [nwH_new z] at e ⊢; exact hid_mono ler _ _ e
        | some w =>
          cases t : (isTup w || isTbl w) with
          | true => rw [nwH_tup z t] at e ⊢; exact hid_mono ler _ _ e
          | false => rw [nwH_old z t] at e; cases e
      · have e1 := nwH_le _ _ e
        obtain ⟨h2, h3⟩ := hid_co e1
        have ne : b ≠ D := fun z => by rw [z, plus_at] at h2; cases h2
        rw [plus_ne ne] at h2
        have e3 : hid D0 (co (rm H' D)) b = some u := hid_at h2 (by unfold co at h3 ⊢; rw [rm_ne ne]; exact h3)
        cases z : H b with
        | none => rw [nwH_new z]; exact e3
        | some w =>
          cases t : (isTup w || isTbl w) with
          | true => rw [nwH_tup z t]; exact e3
          | false =>
            rw [nwH_old (le2'.k _ _ z (nt_of t)) t] at e
            cases e
  · left
    have ei : i = ds.length := by omega
    subst ei
    refine ⟨⟨vs, SqL.at e2, by rw [ra.length]; exact Nat.le_refl _⟩, q _ _ le2' ?_⟩
    rw [List.take_length] at r2
    refine .lst (vs := us) (by rw [nwH_new hD]; exact hid_at hDD (co_of eD)) (r2.mono fun b u e => ?_)
    have le3 : Lh (rm H2 D) H2 := Lh.of rm_le
    cases z : H b with
    | none => rw [nwH_new z] at e ⊢; exact hid_mono le3 _ _ e
    | some w =>
      cases t : (isTup w || isTbl w) with
      | true => rw [nwH_tup z t] at e ⊢; exact hid_mono le3 _ _ e
      | false => rw [nwH_old z t] at e; cases e
end
theorem nwH_anti [Tbs] {H H' G : Hp} (h : Lh H H') : Le (nwH H' G) (nwH H G) := fun a u e => by
  cases z : H a with
  | none => rw [nwH_new z]; exact nwH_le _ _ e
  | some w =>
    cases t : (isTup w || isTbl w) with
    | true => rw [nwH_tup z t]; exact nwH_le _ _ e
    | false => rw [nwH_old (h.k _ _ z (nt_of t)) t] at e; cases e
theorem okcAll {G G' : Hp} {m : Nat} (ih : ∀ {v : V} {d : PyData}, Rp G v d → okc m d = true → Rp G' v d) : ∀ {vs : List V} {xs : List PyData}, RpAll G vs xs → (∀ x ∈ xs, okc m x = true) → RpAll G' vs xs
  | _, _, .nil, _ => .nil
  | _, _, .cons a b, h => .cons (ih a (h _ List.mem_cons_self)) (okcAll ih b fun y hy => h y (List.mem_cons_of_mem _ hy))
/-- such data hang on lists and tuples alone -/
theorem Rp.okc {G G' : Hp} (hl : ∀ a xs, G a = some (.lst xs) → G' a = some (.lst xs)) (ht : ∀ a xs, G a = some (.tup xs) → G' a = some (.tup xs)) : ∀ (m : Nat) {v : V} {d : PyData}, Rp G v d → Pu.okc m d = true → Rp G' v d := by
  intro m
  induction m with
  | zero => intro v d r h; exact absurd h Bool.false_ne_true
  | succ m ih =>
    intro v d r h
    by_cases hd : typD d = "list"
    · cases d with
      | list xs =>
        obtain ⟨a, vs, rfl, e, ra⟩ := rp_lst r
        have h : xs.all (Pu.okc m) = true := h
        rw [List.all_eq_true] at h
        exact .lst (hl _ _ e) (okcAll ih ra h)
      | _ => simp [typD] at hd
    · exact Rp.flat ht r (flat_typ hd m h)
section
variable {P : Program} {w : World} {K : PySem.W.Frag} {mg : Str → Option Value} {base : Heap}
/-- the copier promises nothing with no room for its calls -/
theorem copy_none [Tbs] {f : Addr} {fd : FuncData} {x : Str} {k : Nat} : FnOk P w K mg base (L2.CX P w) k f fd [x] (spCopy 0) :=
  ⟨fun vs H Q E q => by obtain ⟨_, v, d, D0, rfl, _⟩ := q; rfl, fun A outer s H args us vs Q E hr he hb hv hs => by
    obtain ⟨_, v, d, D0, _, _, _, h, _⟩ := hs
    exact absurd h Bool.false_ne_true⟩
/-- the copier, from its body's reading -/
theorem copy_ok [Tbs] {x : Str} {st : Stmt} {f : Addr} {fd : FuncData} {N : List Str} {p : Str} {k m : Nat} (F : Fun K x x st f fd) (S : FnScope N [p] (defScope st)) (hN : N.length = 2)
    (hb : ∀ (cdv : Value) (A : Around) (outer : List PySem.Env) (s : Shared) (H : Hp) (E : XK), At (cxOf (L2.CX P w) P w K mg base N x (defScope st) f cdv A outer s H E) (WN mg) k →
      PSs (cxOf (L2.CX P w) P w K mg base N x (defScope st) f cdv A outer s H E) (defBody st) (tSeq (tIfS (tTW (WN mg) (wB (wIsi "list" (wV 0)))) (tRet (tLc (iList K (tVar 0)) (gName 1) tYes (tCp (spCopy m) 1) [1])) tNext) (tRet (tVar 0)))) :
    FnOk P w K mg base (L2.CX P w) (k + 1) f fd [p] (spCopy (m + 1)) := by
  refine F.okX S (fun vs H Q E h => ?_) (fun cdv A outer s H vs Q E hr h => ?_)
  · obtain ⟨_, v, d, D0, rfl, _⟩ := h
    rfl
  obtain ⟨tb, v, d, D0, rfl, hd, r, hok, hsz, q⟩ := h
  refine ⟨_, hb cdv A outer s H E ⟨hr, rfl, takes0, rfl, S.nd, passes_of rfl⟩, ?_⟩
  have E0 := env_start (N := N) tb hd (.cons r .nil)
  have nd : typD d ≠ "dict" := fun z => by
    cases d with
    | dict es => exact absurd hok Bool.false_ne_true
    | _ => simp [typD] at z
  have h0 : (L2.start N [v])[0]? = some (some v) := rfl
  refine ⟨D0, _, _, fun b _ => b = isTb (typD d) "list", noX, E0, ?_, fun b S' H' hb E' x' => ?_, Xw.no⟩
  · have hS0 : (startS N.length [d])[0]? = some (.im d) := rfl
    unfold wB wIsi wV
    rw [hS0]
    exact ⟨nd, rfl⟩
  have hb : b = isTb (typD d) "list" := hb
  have le : Lh H H' := ⟨fun a u e n => x' a u rfl e n, fun _ => E'.tb⟩
  have r' : Rp (hid D0 (co H')) v d := r.mono (hid_mono le)
  have hd' : ∀ a, D0 a = true → ∃ u, co H' a = some u ∧ isTup u = false := fun a e => by
    obtain ⟨u, h1, h2⟩ := hd a e
    exact ⟨u, le.co _ _ h1, h2⟩
  by_cases hl : typD d = "list"
  · cases d with
    | list ds =>
      have hb : b = true := hb
      subst hb
      show ite (true = true) _ _
      rw [if_pos rfl]
      have hz : (decide (ds.length < sizeLine) && ds.all (szc m)) = true := hsz
      rw [Bool.and_eq_true, List.all_eq_true] at hz
      have ho : ds.all (okc m) = true := hok
      rw [List.all_eq_true] at ho
      exact lc_copy h0 hd' r' E'.tb (by unfold L2.start; simp; omega) (fun x hx => ⟨ho x hx, hz.2 x hx⟩) (of_decide_eq_true hz.1) fun v' H2 le2 r2 => q v' H2 (le.trans le2) (r2.mono (nwH_anti le))
    | _ => simp [typD] at hl
  · have hf : b = false := by
      rw [hb]
      cases d with
      | list ds => exact absurd rfl hl
      | _ => simp only [typD]; decide
    rw [hf]
    show ite (false = true) _ _
    rw [if_neg Bool.false_ne_true]
    refine ⟨v, h0, q v H' le (r'.flat (fun a xs e => ?_) (flat_typ hl m hok))⟩
    obtain ⟨h1, h2⟩ := hid_co e
    cases z : H a with
    | none => rw [nwH_new z]; exact e
    | some u =>
      cases nt : isTbl u with
      | true => rw [nwH_tup z (by rw [nt, Bool.or_true])]; exact e
      | false =>
        have e3 := co_tup h2
        have e4 := le.k _ _ z nt
        rw [e3] at e4
        cases e4
        rw [nwH_tup z rfl]
        exact e

/-! ### a def that changes its argument, if that is a list -/
def spChg : Sp := fun vs H Q _ => ∃ v, vs = [v] ∧ ((∃ a xs, v = .ref a ∧ H a = some (.lst xs) ∧ xs.length < sizeLine ∧ Q .non (upd H a (.lst (xs.reverse ++ [.non])))) ∨ (∃ d, typD d ≠ "list" ∧ typD d ≠ "dict" ∧ Rp (co H) v d ∧ Q .non H))
/-- isinstance(slot i, list) by what the value is -/
def tIsL (K : PySem.W.Frag) (i : Nat) : TT := fun σ H Q => ∃ v, σ[i]? = some (some v) ∧ ∃ (t : String) (b : Bool), TyX K H v (.type t) ∧ kitB t "list" = some b ∧ Q b H
theorem pt_isL {X : Cx} {pos : Pos} (i : Nat) {y : Str} {p q r : Pos} (hm : X.mg "isinstance" = none) (hmT : X.mg "list" = none) (hN : X.N[i]? = some y := by rfl) (hv : Vis X.env.scope y := by first | exact Or.inl rfl | exact Or.inr (Or.inl rfl) | exact Or.inr (Or.inr rfl))
    (hd : (y == ("__debug__" : Str)) = false := by decide) (hcd : (y == ("__classdict__" : Str)) = false := by decide) (hg : Gl X "isinstance" := by rfl) (hgT : Gl X "list" := by rfl)
    (hst : starEach [.Name y q, .Name "list" r] X.env = (false, eval (.Name y q) X.env) :: starEach [.Name "list" r] X.env := by rfl) (hst2 : starEach [.Name "list" r] X.env = (false, eval (.Name "list" r) X.env) :: starEach [] X.env := by rfl) (hpl : (backTo pos (starEach [.Name "list" r] X.env)).any (·.1) = false := by rfl)
    (he : ∀ whole, isTrue (.Call (.Name "isinstance" p) [.Name y q, .Name "list" r] [] pos) X.env whole = (do let v ← whole; standAt pos; holding [v] (truthy v)) := by intro _; rfl) :
    PT X (.Call (.Name "isinstance" p) [.Name y q, .Name "list" r] [] pos) (tIsL X.K i) := by
  have h := pt_val (pe_callB (pos := pos) (p := p) call_isi hg hm (by decide +kernel) (pa_cons (pe_var (pos := q) hN hv hd hcd) (pa_cons (pe_bltn (pos := r) (v := .ty "list") hgT hmT bt_list rfl (by decide) (by decide)) pa_nil hst2) hst) (by decide) (by decide) hst hpl) he
  refine ⟨fun pins s σ H Q I ⟨v, h1, t, b, h2, h3, hq⟩ => h.run pins s σ H Q I ?_⟩
  exact ⟨v, h1, v, .ty "list", _, _, _, rfl, .ty "list", h2, kit_ty h3, b, rfl, hq⟩
theorem chg_ok [Tbs] {x : Str} {st : Stmt} {f : Addr} {fd : FuncData} {p : Str} {k : Nat} (F : Fun K x x st f fd) (S : FnScope [p] [p] (defScope st))
    (hb : ∀ (cdv : Value) (A : Around) (outer : List PySem.Env) (s : Shared) (H : Hp) (E : XK), PSs (cxOf (L2.CX P w) P w K mg base [p] x (defScope st) f cdv A outer s H E) (defBody st)
      (tIfS (tIsL K 0) (tSeq (tDrop (tBM0 K "list" rReverse (tVar 0))) (tDrop (tBM K "list" rAppend (tVar 0) (tCons (tC .non) tNil)))) tNext)) :
    FnOk P w K mg base (L2.CX P w) (k + 1) f fd [p] spChg := by
  refine F.okX S (fun vs H Q E h => ?_) (fun cdv A outer s H vs Q E hr h => ?_)
  · obtain ⟨v, rfl, _⟩ := h
    rfl
  obtain ⟨v, rfl, h⟩ := h
  refine ⟨_, hb cdv A outer s H E, ?_⟩
  have h0 : (L2.start [p] [v])[0]? = some (some v) := rfl
  refine ⟨v, h0, ?_⟩
  rcases h with ⟨a, xs, rfl, e, hz, q⟩ | ⟨d, hl, hd, r, q⟩
  · refine ⟨"list", true, .base (.lst e), by decide +kernel, ?_⟩
    show ite (true = true) _ _
    rw [if_pos rfl]
    refine ⟨.ref a, h0, .inl ⟨rfl, xs, SqL.at e⟩, a, xs, rfl, rfl, e, ?_⟩
    refine ⟨.ref a, h0, .inl ⟨rfl, xs.reverse, SqL.at upd_same⟩, a, xs.reverse, .non, rfl, rfl, upd_same, by rw [List.length_reverse]; exact hz, ?_⟩
    rw [upd_upd]
    exact q
  · refine ⟨typD d, isTb (typD d) "list", rp_ty r hd, kit_d hd rfl, ?_⟩
    have hf : isTb (typD d) "list" = false := by
      cases d with
      | list ds => exact absurd rfl hl
      | dict ds => exact absurd rfl hd
      | _ => simp only [typD]; decide
    rw [hf]
    show ite (false = true) _ _
    rw [if_neg Bool.false_ne_true]
    exact q
end

section
variable {X : Cx} {W : WM} {k : Nat} {pos : Pos}
theorem pe_cp {j : Nat} {sp : Sp} (i : Nat) {x y : Str} {p q : Pos} (a : At X (WN X.mg) k) (F : Def X.prog X.w X.K X.mg X.base j x 1 sp) (hj : j ≤ k) (hN : X.N[i]? = some y := by rfl) (hv : Vis X.env.scope y := by first | exact Or.inl rfl | exact Or.inr (Or.inl rfl) | exact Or.inr (Or.inr rfl))
    (hd : (y == ("__debug__" : Str)) = false := by decide) (hcd : (y == ("__classdict__" : Str)) = false := by decide) (hg : Gl X x := by rfl) (hdb : (x == ("__debug__" : Str)) = false := by decide)
    (he : starEach [.Name y q] X.env = (false, eval (.Name y q) X.env) :: starEach [] X.env := by rfl) (hpl : (backTo pos (starEach [] X.env)).any (·.1) = false := by rfl) : PE X (.Call (.Name x p) [.Name y q] [] pos) (tCp sp i) := by
  obtain ⟨f, fd, ps, G, hm, hk, hb, hps⟩ := F.ex
  have h := pe_callS (pos := pos) (p := p) G (a.room.mono hj) hg hm hk hb a.tk (pa_cons (pe_var (pos := q) hN hv hd hcd) pa_nil he) hdb he hpl
  refine ⟨fun pins s σ H Q I ⟨v, h1, h2⟩ => h.run pins s σ H Q I ⟨v, h1, ?_⟩⟩
  have e : (WE (WN X.mg).w σ : XK) = fun _ _ _ => False := rfl
  show sp [v] H Q _
  rw [e]
  exact h2
end
end Pu

namespace Pu
open PySem L2
section
variable {X : Cx} {W : WM} {k : Nat} {pos : Pos}
/-! ### x = copied(e): the copy's lists are the frame's own -/
/-- nothing stands at a but, maybe, a table -/
def Fsh (H : Hp) (a : Addr) : Prop := ∀ u, H a = some u → isTbl u = true
theorem Fsh.co {H : Hp} {a : Addr} (h : Fsh H a) : Pu.co H a = none := by
  cases e : Pu.co H a with
  | none => rfl
  | some u =>
    obtain ⟨w, h1, h2, _⟩ := co_inv e
    rw [h w h1] at h2
    cases h2
open Classical in
noncomputable def owN (o : Ow) (H H' : Hp) (i : Nat) : Ow := fun a => if Fsh H a ∧ ∃ xs, H' a = some (.lst xs) then some (i, false) else o a
theorem owN_old {o : Ow} {H H' : Hp} {i : Nat} {a : Addr} {u : HO} (h : H a = some u) (n : isTbl u = false) : owN o H H' i a = o a := by
  unfold owN
  rw [if_neg]
  rintro ⟨h1, _⟩
  rw [h1 u h] at n
  cases n
theorem owN_new {o : Ow} {H H' : Hp} {i : Nat} {a : Addr} {xs : List V} (h : Fsh H a) (h' : H' a = some (.lst xs)) : owN o H H' i a = some (i, false) := by
  unfold owN
  rw [if_pos ⟨h, xs, h'⟩]
theorem owN_cases {o : Ow} {H H' : Hp} {i : Nat} (a : Addr) : (Fsh H a ∧ (∃ xs, H' a = some (.lst xs)) ∧ owN o H H' i a = some (i, false)) ∨ owN o H H' i a = o a := by
  unfold owN
  by_cases h : Fsh H a ∧ ∃ xs, H' a = some (.lst xs)
  · exact .inl ⟨h.1, h.2, if_pos h⟩
  · exact .inr (if_neg h)
def wTree (m i : Nat) (we : WEx) : WS := fun S P => we S (fun d c S1 => okc m d = true ∧ szc m d = true ∧ P.nx (S1.set i (.ot d))) P.ex
theorem Env.tree [Tbs] {D0 : Addr → Bool} {S : Slots} {σ : St} {H H' : Hp} {o : Ow} {v : V} {d : PyData} {m : Nat} (E : Env D0 S σ H o) (i : Nat) (le : Lh H H') (hok : okc m d = true) (r : Rp (nwH H (hid (fun a => D0 a || mutO (o a)) (co H'))) v d) :
    Env D0 (S.set i (.ot d)) (σ.set i (some v)) H' (owN o H H' i) := by
  have alive : ∀ {a p}, o a = some p → ∃ u, H a = some u := fun {a p} e => by
    obtain ⟨u, h, _⟩ := E.at_ e
    exact ⟨u, h⟩
  have hv : Le (vw D0 o (co H)) (vw D0 (owN o H H' i) (co H')) := fun a u e => by
    obtain ⟨h1, h2⟩ := vw_no e
    have h3 := vw_le _ _ e
    obtain ⟨w, hw, nt, _⟩ := co_inv h3
    exact vw_at h1 (by rw [owN_old hw nt]; exact h2) (le.co _ _ h3)
  refine ⟨by rw [List.length_set, List.length_set]; exact E.len, fun a p e => ?_, fun a e => ?_, fun j s h => ?_, fun a p u e h1 => ?_, le.tb E.tb⟩
  · rcases owN_cases (o := o) (H := H) (H' := H') (i := i) a with ⟨h1, ⟨xs, h2⟩, _⟩ | h1
    · refine ⟨?_, _, co_of h2, rfl⟩
      cases z : D0 a with
      | false => rfl
      | true =>
        obtain ⟨u, e1, _⟩ := E.dead a z
        rw [h1.co] at e1
        cases e1
    · rw [h1] at e
      obtain ⟨h2, u, h3, h4⟩ := E.live a p e
      exact ⟨h2, u, le.co _ _ h3, h4⟩
  · obtain ⟨u, h3, h4⟩ := E.dead a e
    exact ⟨u, le.co _ _ h3, h4⟩
  · by_cases e : i = j
    · subst e
      have hi : i < S.length := by
        obtain ⟨h1, _⟩ := List.getElem?_eq_some_iff.mp h
        rw [List.length_set] at h1
        exact h1
      rw [List.getElem?_set_self hi] at h
      cases h
      refine ⟨v, by rw [List.getElem?_set_self (by rw [E.len]; exact hi)], ?_⟩
      have base : ∀ {a : Addr} {u : HO}, nwH H (hid (fun a => D0 a || mutO (o a)) (co H')) a = some u → (D0 a || mutO (o a)) = false ∧ co H' a = some u ∧ (∀ w, H a = some w → (isTup w || isTbl w) = true) := fun {a u} q => by
        obtain ⟨h1, h2⟩ := hid_co (nwH_le _ _ q)
        refine ⟨h1, h2, fun w hw => ?_⟩
        cases t : (isTup w || isTbl w) with
        | true => rfl
        | false => rw [nwH_old hw t] at q; cases q
      refine Rp.okc (fun a xs q => ?_) (fun a xs q => ?_) m r hok
      · obtain ⟨h1, h2, h3⟩ := base q
        have h4 := co_lst h2
        have fs : Fsh H a := fun w z => by
          have h5 := h3 w z
          cases nt : isTbl w with
          | true => rfl
          | false =>
            have h6 := le.k _ _ z nt
            rw [h4] at h6
            cases h6
            cases h5
        unfold vi
        rw [if_pos (owN_new fs h4)]
        exact h2
      · obtain ⟨h1, h2, h3⟩ := base q
        have h4 := co_tup h2
        have hD : D0 a = false := by
          cases y : D0 a with
          | false => rfl
          | true => rw [y] at h1; cases h1
        have hn : o a = none := by
          cases y : o a with
          | none => rfl
          | some p =>
            obtain ⟨_, u, e1, e2⟩ := E.live a p y
            rw [le.co _ _ e1] at h2
            cases h2
            cases e2
        have hO : owN o H H' i a = none := by
          rcases owN_cases (o := o) (H := H) (H' := H') (i := i) a with ⟨_, ⟨ys, y⟩, _⟩ | y
          · rw [h4] at y; cases y
          · rw [y]; exact hn
        unfold vi
        rw [if_neg (by rw [hO]; simp), vw_at hD hO h2]
        rfl
    · rw [List.getElem?_set_ne e] at h ⊢
      refine (E.sl j s h).move hv fun a b u h1 h2 => ?_
      obtain ⟨w, hw⟩ := alive h1
      exact ⟨by rw [owN_old hw (E.nt h1 hw)]; exact h1, le.co _ _ h2⟩
  · rcases owN_cases (o := o) (H := H) (H' := H') (i := i) a with ⟨_, ⟨xs, h2⟩, _⟩ | h2
    · rw [h2] at h1
      cases h1
      rfl
    · rw [h2] at e
      obtain ⟨u', h3, h4⟩ := E.at_ e
      rw [le.k _ _ h3 (E.nt e h3)] at h1
      cases h1
      exact h4
theorem ss_tree [Tbs] {j m : Nat} (i : Nat) {x f : Str} {e : Expr} {p p2 cp : Pos} {we : WEx} (a : At X W k) (F : Def X.prog X.w X.K X.mg X.base j f 1 (spCopy m)) (hj : j ≤ k) (he : SE X W e we) (hi : X.N[i]? = some x := by rfl) (hx : Loc X.env.scope x := by first | exact Or.inl rfl | exact Or.inr rfl)
    (hg : Gl X f := by rfl) (hdb : (f == ("__debug__" : Str)) = false := by decide) (hst : starEach [e] X.env = (false, eval e X.env) :: starEach [] X.env := by rfl) (hpl : (backTo cp (starEach [] X.env)).any (·.1) = false := by rfl)
    (hs : swapsWith (.Call (.Name f p2) [e] [] cp) (some (.Name x p)) pos.line X.env = pure false := by rfl) (hf : X.fn x = true ∨ X.env.scope.names.lookup x = some .local := by first | exact .inl rfl | exact .inr rfl) :
    SS X W (.Assign [.Name x p] (.Call (.Name f p2) [e] [] cp) pos) (wTree m i we) := by
  obtain ⟨te, pe, se⟩ := he.ex
  obtain ⟨fa, fd, ps, G, hm, hk, hb, hps⟩ := F.ex
  refine ⟨_, ps_set a.nd hi hx (pe_callS G (a.room.mono hj) hg hm hk hb a.tk (pa_cons pe pa_nil hst) hdb hst hpl) hs hf, ?_⟩
  intro D0 S σ H o P D E hw g
  refine se D0 S σ H o _ P.ex _ E hw (fun d c S1 v H1 h1 E1 x1 V1 => ?_) g.xw
  refine ⟨E1.tb, v, d, fun a => D0 a || mutO (o a), rfl, E1.deadM, V1.1, h1.1, h1.2.1, fun v' H' le r => ?_⟩
  refine g.nx _ _ _ _ h1.2.2 (E1.tree i le h1.1 r) (x1.fr.trans fun b u e1 e2 nt => ⟨le.k _ _ e2 nt, by rw [owN_old e2 nt]; exact e1⟩)

/-! ### statements whose ends ask nothing of what stood before -/
structure GoesF [Tbs] (W : WM) (D0 : Addr → Bool) (P : En) (D : Ends) : Prop where
  nx : ∀ S' σ' H' o', P.nx S' → Env D0 S' σ' H' o' → D.nx σ' H'
  bk : ∀ S' σ' H' o', P.bk S' → Env D0 S' σ' H' o' → D.bk σ' H'
  ct : ∀ S' σ' H' o', P.ct S' → Env D0 S' σ' H' o' → D.ct σ' H'
  rt : ∀ d c S' v σ' H' o', P.rt d c S' → Env D0 S' σ' H' o' → Val D0 o' H' v d c → D.rt v H'
  ex : ∀ x S' σ' cls dd H' o', P.ex x S' → Env D0 S' σ' H' o' → XOk W.mg H' x cls dd → W.w cls dd σ' H'
theorem GoesF.goes [Tbs] {D0 : Addr → Bool} {o : Ow} {H : Hp} {P : En} {D : Ends} (g : GoesF W D0 P D) : Goes W D0 o H P D :=
  ⟨fun a b c d e E _ => g.nx a b c d e E, fun a b c d e E _ => g.bk a b c d e E, fun a b c d e E _ => g.ct a b c d e E, fun a b c d e f' g' h E _ => g.rt a b c d e f' g' h E, fun a b c d e f' g' h E _ => g.ex a b c d e f' g' h E⟩
def SndF [Tbs] (W : WM) (t : TS) (w : WS) : Prop := ∀ (D0 : Addr → Bool) (S : Slots) (σ : St) (H : Hp) (o : Ow) (P : En) (D : Ends), Env D0 S σ H o → w S P → GoesF W D0 P D → t D σ H
structure SF [Tbs] (X : Cx) (W : WM) (st : Stmt) (w : WS) : Prop where
  ex : ∃ t, PS X st t ∧ SndF W t w
structure SFs' [Tbs] (X : Cx) (W : WM) (st : List Stmt) (w : WS) : Prop where
  ex : ∃ t, PSs X st t ∧ SndF W t w
theorem sf_ss [Tbs] {st : Stmt} {w : WS} (h : SS X W st w) : SF X W st w := by
  obtain ⟨t, p, s⟩ := h.ex
  exact ⟨t, p, fun D0 S σ H o P D E hw g => s D0 S σ H o P D E hw g.goes⟩
theorem sfs_one [Tbs] {st : Stmt} {w : WS} (h : SF X W st w) : SFs' X W [st] w := by
  obtain ⟨t, p, s⟩ := h.ex
  exact ⟨_, pss_one p, s⟩
theorem sfs_cons [Tbs] {st : Stmt} {rest : List Stmt} {w1 w2 : WS} (h1 : SF X W st w1) (h2 : SFs' X W rest w2) : SFs' X W (st :: rest) (wSeq w1 w2) := by
  obtain ⟨t1, p1, s1⟩ := h1.ex
  obtain ⟨t2, p2, s2⟩ := h2.ex
  refine ⟨_, pss_cons p1 p2, ?_⟩
  intro D0 S σ H o P D E hw g
  exact s1 D0 S σ H o _ _ E hw ⟨fun S' σ' H' o' h E' => s2 D0 S' σ' H' o' P D E' h g, g.bk, g.ct, g.rt, g.ex⟩
end
end Pu

namespace Pu
open PySem L2
/-! ### for x in xs: changed(x): the lists that hang on xs are changed -/
def itOk : PyData → Bool
  | .list es => flats es && decide (es.length < 1000000)
  | d => flat d
def messSlot : Slot → Slot
  | .im d => if flat d = true then .im d else .un
  | .ol xs => if flats xs = true then .ol xs else .un
  | .ob a dx c fs => if (fs.all fun p => flat p.2) = true then .ob a dx c fs else .un
  | .rng a c => .rng a c
  | .ot d => .ot d
  | _ => .un
/-- all but nobody's lists stands as it stood; these are lists still -/
def Ms (D0 : Addr → Bool) (o : Ow) (H H' : Hp) : Prop := ∀ b u, H b = some u → (∃ xs ys, u = .lst xs ∧ D0 b = false ∧ o b = none ∧ H' b = some (.lst ys)) ∨ H' b = some u
theorem Ms.refl (D0 : Addr → Bool) (o : Ow) (H : Hp) : Ms D0 o H H := fun _ _ h => .inr h
theorem Ms.own {D0 : Addr → Bool} {o : Ow} {H H' : Hp} (m : Ms D0 o H H') {b : Addr} {p : Nat × Bool} {u : HO} (h : o b = some p) (e : H b = some u) : H' b = some u := by
  rcases m b u e with ⟨_, _, _, _, h1, _⟩ | h1
  · rw [h] at h1; cases h1
  · exact h1
theorem Ms.hid {D0 : Addr → Bool} {o : Ow} {H H' : Hp} (m : Ms D0 o H H') {b : Addr} {u : HO} (h : D0 b = true) (e : H b = some u) : H' b = some u := by
  rcases m b u e with ⟨_, _, _, h1, _, _⟩ | h1
  · rw [h] at h1; cases h1
  · exact h1
theorem Ms.tup {D0 : Addr → Bool} {o : Ow} {H H' : Hp} (m : Ms D0 o H H') {b : Addr} {xs : List V} (e : H b = some (.tup xs)) : H' b = some (.tup xs) := by
  rcases m b _ e with ⟨_, _, z, _⟩ | h1
  · cases z
  · exact h1
theorem Ms.co {D0 : Addr → Bool} {o : Ow} {H H' : Hp} {b : Addr} {u : HO} (h : ∀ w, H b = some w → H' b = some w) (e : co H b = some u) : co H' b = some u := co_on (fun w z _ => h w z) e
theorem Ms.vwT {D0 : Addr → Bool} {o : Ow} {H H' : Hp} (m : Ms D0 o H H') : ∀ a xs, vw D0 o (Pu.co H) a = some (.tup xs) → vw D0 o (Pu.co H') a = some (.tup xs) := fun a xs e => by
  obtain ⟨h1, h2⟩ := vw_no e
  exact vw_at h1 h2 (co_of (m.tup (co_tup (vw_le _ _ e))))
theorem RpF.flat {G G' : Hp} (h : ∀ a xs, G a = some (.tup xs) → G' a = some (.tup xs)) : ∀ {fs : List (Str × V)} {es : List (Str × PyData)}, RpF G fs es → (es.all fun p => Pu.flat p.2) = true → RpF G' fs es
  | _, _, .nil, _ => .nil
  | _, _, .cons a b, f => by
    rw [List.all_cons, Bool.and_eq_true] at f
    exact .cons (a.flat h f.1) (b.flat h f.2)
theorem Env.mess [Tbs] {D0 : Addr → Bool} {S : Slots} {σ σ' : St} {H H' : Hp} {o : Ow} (E : Env D0 S σ H o) (m : Ms D0 o H H') (j : Nat) (hl : σ'.length = σ.length) (hσ : ∀ l, l ≠ j → σ'[l]? = σ[l]?) : Env D0 ((S.map messSlot).set j .un) σ' H' o := by
  refine ⟨by rw [List.length_set, List.length_map, hl]; exact E.len, fun a p e => ?_, fun a e => ?_, fun l s h => ?_, fun a p u e h1 => ?_, E.tb.but fun a u e x => by
    rcases m a u e with ⟨xs, ys, z, _⟩ | z
    · rw [z] at x; cases x
    · exact z⟩
  · obtain ⟨h2, u, h3, h4⟩ := E.live a p e
    exact ⟨h2, u, Ms.co (D0 := D0) (o := o) (fun w hw => m.own e hw) h3, h4⟩
  · obtain ⟨u, h3, h4⟩ := E.dead a e
    exact ⟨u, Ms.co (D0 := D0) (o := o) (fun w hw => m.hid e hw) h3, h4⟩
  · by_cases e : j = l
    · subst e
      have hj : j < (S.map messSlot).length := by
        obtain ⟨h1, _⟩ := List.getElem?_eq_some_iff.mp h
        rw [List.length_set] at h1
        exact h1
      rw [List.getElem?_set_self hj] at h
      cases h
      trivial
    · rw [List.getElem?_set_ne e, List.getElem?_map] at h
      rw [hσ l (Ne.symm e)]
      cases z : S[l]? with
      | none => rw [z] at h; cases h
      | some t =>
        rw [z] at h
        have h : s = messSlot t := (Option.some.inj h).symm
        have q := E.sl l t z
        subst h
        have cown : ∀ {a : Addr} {p : Nat × Bool} {u : HO}, o a = some p → Pu.co H a = some u → Pu.co H' a = some u := fun {a p u} h1 h2 => Ms.co (D0 := D0) (o := o) (fun w hw => m.own h1 hw) h2
        cases t with
        | un => trivial
        | im d =>
          show SlotOk _ _ _ _ _ (if flat d = true then Slot.im d else Slot.un)
          by_cases f : flat d = true
          · rw [if_pos f]
            obtain ⟨v, h1, h2⟩ := q
            exact ⟨v, h1, h2.flat m.vwT f⟩
          · rw [if_neg f]
            trivial
        | ol xs =>
          show SlotOk _ _ _ _ _ (if flats xs = true then Slot.ol xs else Slot.un)
          by_cases f : flats xs = true
          · rw [if_pos f]
            obtain ⟨a, vs, h1, h2, h3, h4⟩ := q
            exact ⟨a, vs, h1, h2, cown h2 h3, h4.flat m.vwT f⟩
          · rw [if_neg f]
            trivial
        | od es => trivial
        | rng a c =>
          obtain ⟨st, ix, ns, h1, h2, h3, h4, h5, h6, h7⟩ := q
          exact ⟨st, ix, ns, h1, h2, h3, h4, cown h2 h5, cown h3 h6, h7⟩
        | ex a dd fs => trivial
        | ob a dx c fs =>
          show SlotOk _ _ _ _ _ (if (fs.all fun p => flat p.2) = true then Slot.ob a dx c fs else Slot.un)
          by_cases f : (fs.all fun p => flat p.2) = true
          · rw [if_pos f]
            obtain ⟨vs, h1, h2, h3, h4, h5, h6, h7⟩ := q
            exact ⟨vs, h1, h2, h3, h4, cown h2 h5, cown h3 h6, h7.flat m.vwT f⟩
          · rw [if_neg f]
            trivial
        | ot d =>
          obtain ⟨v, h1, h2⟩ := q
          refine ⟨v, h1, h2.mono fun a u e1 => ?_⟩
          unfold vi at e1 ⊢
          by_cases z : o a = some (l, false)
          · rw [if_pos z] at e1 ⊢
            exact cown z e1
          · rw [if_neg z] at e1 ⊢
            obtain ⟨e2, e3⟩ := tupB_eq e1
            cases u with
            | tup xs => rw [m.vwT _ _ e2]; rfl
            | xd fs => rw [e2] at e1; cases e1
            | _ => cases e3
  · obtain ⟨u', h3, h4⟩ := E.at_ e
    rw [m.own e h3] at h1
    cases h1
    exact h4
/-- an item of the walked list -/
def ItV (D0 : Addr → Bool) (o : Ow) (a : Addr) (H : Hp) (B : Nat) (v : V) (d : PyData) : Prop := (∃ b xs, v = .ref b ∧ b ≠ a ∧ D0 b = false ∧ o b = none ∧ H b = some (.lst xs) ∧ xs.length ≤ B) ∨ (flat d = true ∧ Rp (co H) v d)
theorem itV_of {D0 : Addr → Bool} {o : Ow} {a : Addr} {H : Hp} {vs : List V} {ds : List PyData} {n : Nat} {v : V} {d : PyData} (ha : vw D0 o (co H) a = some (.lst vs)) (r : RpAll (vw D0 o (co H)) vs ds) (hv : vs[n]? = some v) (hd : ds[n]? = some d) (ok : itOk d = true) : ItV D0 o a H 1000000 v d := by
  obtain ⟨v', h1, h2⟩ := r.get hd
  rw [hv] at h1
  cases h1
  have fl : flat d = true → ItV D0 o a H 1000000 v d := fun f => .inr ⟨f, h2.mono vw_le⟩
  cases d with
  | list es =>
    have ok : (flats es && decide (es.length < 1000000)) = true := ok
    rw [Bool.and_eq_true] at ok
    obtain ⟨b, ws, rfl, e, rw_⟩ := rp_lst h2
    obtain ⟨k1, k2⟩ := vw_no e
    refine .inl ⟨b, ws, rfl, fun z => ?_, k1, k2, co_lst (vw_le _ _ e), by rw [rw_.length]; exact Nat.le_of_lt (of_decide_eq_true ok.2)⟩
    subst z
    rw [ha] at e
    cases e
    obtain ⟨x, hx, rx⟩ := rw_.getV hv
    obtain ⟨b', ws', q1, q2⟩ : ∃ b' ws', V.ref b = .ref b' ∧ vw D0 o (co H) b' = some (.lst ws') := ⟨b, _, rfl, ha⟩
    have fx := flats_iff.mp ok.1 x (List.mem_of_getElem? hx)
    cases rx with
    | lst _ _ => simp [flat] at fx
    | tup q _ => rw [ha] at q; cases q
    | dK _ _ => simp [flat] at fx
    | dT _ _ => simp [flat] at fx
  | _ => exact fl ok
def wForChg (i j : Nat) : WS := fun S P => ∃ ds, S[i]? = some (.im (.list ds)) ∧ ds.length < 1000000 ∧ (ds.all itOk) = true ∧ j < S.length ∧ P.nx ((S.map messSlot).set j .un)
section
variable {X : Cx} {W : WM} {k : Nat} {pos : Pos}
theorem sf_chg [Tbs] {n : Nat} (i j : Nat) {x y f : Str} {p1 p2 p3 p4 cp : Pos} (a : At X W k) (F : Def X.prog X.w X.K X.mg X.base n f 1 spChg) (hn : n ≤ k) (hNi : X.N[i]? = some y := by rfl) (hvi : Vis X.env.scope y := by first | exact Or.inl rfl | exact Or.inr (Or.inl rfl) | exact Or.inr (Or.inr rfl))
    (hdi : (y == ("__debug__" : Str)) = false := by decide) (hcdi : (y == ("__classdict__" : Str)) = false := by decide)
    (hNj : X.N[j]? = some x := by rfl) (hvj : Vis X.env.scope x := by first | exact Or.inl rfl | exact Or.inr (Or.inl rfl) | exact Or.inr (Or.inr rfl))
    (hdj : (x == ("__debug__" : Str)) = false := by decide) (hcdj : (x == ("__classdict__" : Str)) = false := by decide) (hxj : Loc X.env.scope x := by first | exact Or.inl rfl | exact Or.inr rfl) (hf : X.fn x = true ∨ X.env.scope.names.lookup x = some .local := by first | exact .inl rfl | exact .inr rfl)
    (hg : Gl X f := by rfl) (hdb : (f == ("__debug__" : Str)) = false := by decide) (hst : starEach [.Name x p4] X.env = (false, eval (.Name x p4) X.env) :: starEach [] X.env := by rfl) (hpl : (backTo cp (starEach [] X.env)).any (·.1) = false := by rfl)
    (hsw : swapsWith (.Call (.Name f p3) [.Name x p4] [] cp) none p2.line X.env = pure false := by rfl) (hs : ∀ z, foldedSetIterable (.Name y p1) X.env z = pure z := by intro _; rfl) {pt : Pos} :
    SF X W (.For (.Name x pt) (.Name y p1) [.Expr (.Call (.Name f p3) [.Name x p4] [] cp) p2] [] pos) (wForChg i j) := by
  obtain ⟨fa, fd, ps, G, hm, hk, hb, hps⟩ := F.ex
  refine ⟨_, ps_for a.po a.calm (pi_list (pe_var hNi hvi hdi hcdi)) (pg_name a.nd hNj hxj hf) (pss_one (ps_expr (pe_callS G (a.room.mono hn) hg hm hk hb a.tk (pa_cons (pe_var hNj hvj hdj hcdj) pa_nil hst) hdb hst hpl) hsw)) hs, ?_⟩
  intro D0 S σ H o P D E hw g
  obtain ⟨ds, hS, hlen, hok, hjS, hP⟩ := hw
  rw [List.all_eq_true] at hok
  obtain ⟨v0, hσ, r0⟩ := E.sl i _ hS
  obtain ⟨ad, vs, rfl, ea, ra⟩ := rp_lst r0
  have eH := co_lst (vw_le _ _ ea)
  have items : ∀ n v d, vs[n]? = some v → ds[n]? = some d → ItV D0 o ad H 1000000 v d := fun n v d h1 h2 => itV_of ea ra h1 h2 (hok d (List.mem_of_getElem? h2))
  refine ⟨.ref ad, hσ, ad, rfl, ⟨vs, SqL.at eH⟩, ?_⟩
  refine ⟨fun t m σ' H' => m = ds.length - t ∧ t ≤ ds.length ∧ σ'.length = σ.length ∧ (∀ l, l ≠ j → σ'[l]? = σ[l]?) ∧ Ms D0 o H H' ∧ H' ad = some (.lst vs) ∧ ∀ n v d, vs[n]? = some v → ds[n]? = some d → ItV D0 o ad H' (1000000 + t) v d,
    ⟨ds.length, by simp, Nat.zero_le _, rfl, fun _ _ => rfl, Ms.refl _ _ _, eH, items⟩, ?_⟩
  rintro t m σ2 H2 ⟨rfl, ht, hl2, hσ2, m2, e2, it2⟩
  by_cases hlt : t < ds.length
  · right
    have htv : t < vs.length := by rw [ra.length]; exact hlt
    have hv : vs[t]? = some vs[t] := List.getElem?_eq_getElem htv
    have hd : ds[t]? = some ds[t] := List.getElem?_eq_getElem hlt
    refine ⟨⟨vs, vs[t], SqL.at e2, hv⟩, fun σ' H' => t + 1 ≤ ds.length ∧ σ'.length = σ.length ∧ (∀ l, l ≠ j → σ'[l]? = σ[l]?) ∧ Ms D0 o H H' ∧ H' ad = some (.lst vs) ∧ ∀ n v d, vs[n]? = some v → ds[n]? = some d → ItV D0 o ad H' (1000000 + (t + 1)) v d,
      fun σ' H' hN => ⟨ds.length - (t + 1), by omega, rfl, hN⟩, fun v H3 hy => ?_⟩
    obtain ⟨rfl, hy⟩ := hy
    have hx := hy vs (SqL.at e2)
    have hjs : j < σ2.length := by rw [hl2, E.len]; exact hjS
    refine ⟨v, by rw [List.getElem?_set_self hjs], v, rfl, ?_⟩
    rcases it2 t v _ hx hd with ⟨b, xs, rfl, hba, hb1, hb2, hb3, hb4⟩ | ⟨fl, rv⟩
    · refine .inl ⟨b, xs, rfl, hb3, by rw [show sizeLine = 16777216 from by decide]; omega, hlt, by rw [List.length_set]; exact hl2, fun l hlj => by rw [List.getElem?_set_ne (Ne.symm hlj)]; exact hσ2 l hlj, fun c u hc => ?_, by rw [upd_ne (Ne.symm hba)]; exact e2, fun n v' d' h1 h2 => ?_⟩
      · by_cases z : c = b
        · subst z
          rcases m2 c u hc with ⟨ys, zs, h3, h4, h5, _⟩ | h3
          · exact .inl ⟨ys, _, h3, h4, h5, upd_same⟩
          · rw [hb3] at h3
            cases h3
            exact .inl ⟨_, _, rfl, hb1, hb2, upd_same⟩
        · rw [upd_ne z]
          exact m2 c u hc
      · rcases it2 n v' d' h1 h2 with ⟨b', ys, rfl, h3, h4, h5, h6, h7⟩ | ⟨h3, h4⟩
        · by_cases z : b' = b
          · subst z
            refine .inl ⟨b', _, rfl, h3, h4, h5, upd_same, ?_⟩
            simp only [List.length_append, List.length_reverse, List.length_cons, List.length_nil]
            omega
          · exact .inl ⟨b', ys, rfl, h3, h4, h5, by rw [upd_ne z]; exact h6, by omega⟩
        · refine .inr ⟨h3, h4.flat (fun c ws q => ?_) h3⟩
          have q2 := co_tup q
          have q3 : upd H3 b (.lst (xs.reverse ++ [.non])) c = some (.tup ws) := by
            rw [upd_ne (fun z => by rw [z, hb3] at q2; cases q2)]
            exact q2
          exact co_of q3
    · have hnl : typD ds[t] ≠ "list" ∧ typD ds[t] ≠ "dict" := by
        cases z : ds[t] with
        | list es => rw [z] at fl; simp [flat] at fl
        | dict es => rw [z] at fl; simp [flat] at fl
        | _ => simp [typD]
      refine .inr ⟨ds[t], hnl.1, hnl.2, rv, hlt, by rw [List.length_set]; exact hl2, fun l hlj => by rw [List.getElem?_set_ne (Ne.symm hlj)]; exact hσ2 l hlj, m2, e2, fun n v' d' h1 h2 => ?_⟩
      rcases it2 n v' d' h1 h2 with ⟨b', ys, h3, h4, h5, h6, h7, h8⟩ | h3
      · exact .inl ⟨b', ys, h3, h4, h5, h6, h7, by omega⟩
      · exact .inr h3
  · left
    exact ⟨⟨vs, SqL.at e2, by rw [ra.length]; omega⟩, g.nx _ _ _ o hP (E.mess m2 j hl2 hσ2)⟩
end
section
variable {P : Program} {w : World} {K : PySem.W.Frag} {mg : Str → Option Value} {base : Heap}
/-- THE RULE for law where lists that came back are changed -/
theorem law_okF [Tbs] {st : Stmt} {f : Addr} {fd : FuncData} {N : List Str} {k i : Nat} {seed : Int} (F : Fun K "law" "law" st f fd) (S : FnScope N ["_law_script"] (defScope st)) (hi : i < N.length)
    (hb : ∀ (cdv : Value) (A : Around) (outer : List PySem.Env) (s : Shared) (H : Hp) (E : XK), At (cxOf (L2.CX P w) P w K mg base N "law" (defScope st) f cdv A outer s H E) ⟨mg, fun cls d _ H' => E cls d H'⟩ k →
      ∃ s1 rest WX wb, defBody st = s1 :: rest ∧ PS (cxOf (L2.CX P w) P w K mg base N "law" (defScope st) f cdv A outer s H E) s1 (tAsg (tCallS (spMix K) WX (tCons (tVar 0) (tCons (tC (.int seed)) tNil))) (gName i)) ∧
        SFs' (cxOf (L2.CX P w) P w K mg base N "law" (defScope st) f cdv A outer s H E) ⟨mg, fun cls d _ H' => E cls d H'⟩ rest wb ∧
        ∀ a c, wb ((List.replicate N.length Slot.un).set i (.rng a c)) ⟨fun _ => False, fun d _ _ => d = .bool true, fun _ => False, fun _ => False, fun _ _ => False⟩) :
    FnOk P w K mg base (L2.CX P w) (k + 1) f fd ["_law_script"] (spLaw K) := by
  refine F.okX S (fun vs H Q E h => ?_) (fun cdv A outer s H vs Q E hr h => ?_)
  · obtain ⟨_, a, ns, rfl, _⟩ := h
    rfl
  · obtain ⟨tb, a, ns, rfl, hS, hlen, q⟩ := h
    have at_ : At (cxOf (L2.CX P w) P w K mg base N "law" (defScope st) f cdv A outer s H E) ⟨mg, fun cls d _ H' => E cls d H'⟩ k := ⟨hr, rfl, takes_of rfl rfl rfl rfl, rfl, S.nd, passes_of rfl⟩
    obtain ⟨s1, rest, WX, wb, eb, p1, p2, hw⟩ := hb cdv A outer s H E at_
    obtain ⟨t, pt, st'⟩ := p2.ex
    refine ⟨_, by rw [eb]; exact pss_cons p1 pt, ?_⟩
    have hN : 0 < N.length := by omega
    have h0 : (L2.start N [.ref a])[0]? = some (some (.ref a)) := rfl
    refine ⟨.ref a, h0, a, ns, seed, rfl, hS, hlen, fun p c H' np nc hpc le rg => ?_⟩
    obtain ⟨st1, ix1, ns1, r1, r2, r3⟩ := rg.co
    have E0 : Env (fun _ => false) ((List.replicate N.length Slot.un).set i (.rng p c)) ((L2.start N [.ref a]).set i (some (.ref p))) H' (orng p c i fun _ => none) := by
      refine ⟨?_, fun b q e => ?_, fun b e => (by cases e), fun j s e => ?_, nf_orng rg, le.tb tb⟩
      · unfold L2.start
        simp
        omega
      · unfold orng at e
        split at e
        · rename_i hb
          rcases hb with hb | hb
          · subst hb; exact ⟨rfl, _, r1, rfl⟩
          · subst hb; exact ⟨rfl, _, r2, rfl⟩
        · cases e
      · by_cases z : i = j
        · subst z
          rw [List.getElem?_set_self (by simpa using hi)] at e
          cases e
          refine ⟨st1, ix1, ns1, ?_, if_pos (.inl rfl), if_pos (.inr rfl), hpc, r1, r2, r3⟩
          rw [List.getElem?_set_self]
          unfold L2.start
          simp
          omega
        · rw [List.getElem?_set_ne z, List.getElem?_replicate] at e
          split at e
          · cases e
            trivial
          · cases e
    exact st' _ _ _ H' _ _ _ E0 (hw p c) ⟨fun _ _ _ _ h _ => h.elim, fun _ _ _ _ h _ => h.elim, fun _ _ _ _ h _ => h.elim,
      fun d c' S' v σ' H2 o' h E' V => by
        have h' : d = .bool true := h
        subst h'
        cases V.1
        exact q H2, fun _ _ _ _ _ _ _ h _ _ => h.elim⟩
end
end Pu

namespace Pu
open PySem L2
section
variable {prog : Program} {w : World} {A : Around} {s : Shared}
/-- the shape of the key functions: a place's heap, the place -/
structure KeyLam (params : Arguments) (body : Expr) (scope : Scope) : Prop where
  par : ∃ p : Pos, params = { posonlyargs := [], args := [{ arg := "place", annotation := none, pos := p }], vararg := none, kwonlyargs := [], kw_defaults := [], kwarg := none, defaults := [] }
  bod : ∃ p1 p2 p3 p4 p5 : Pos, body = .Tuple [.Subscript (.Name "heaps" p1) (.Name "place" p2) p3, .Name "place" p4] 0 p5
  sco : scope = { kind := .function, names := [(("place" : Str), .local), (("heaps" : Str), .free)], isGenerator := false, isCoroutine := false, more := [] }
theorem lam_call {params : Arguments} {body : Expr} {scope : Scope} {q : Str} {f c' cc a : Addr} {cl : List (Str × Addr)} {pm ctv : Value} {its : List Value} {i : Int} {t : Tok} {n : Nat} {y : Int} {ty : Tok}
    (K : KeyLam params body scope) (hroom : A.depth < recursionLimit) (lim : s.heap.NoLimit) (hf : s.heap.get? f = some (PySem.W.kla_obj "<lambda>" q params body scope cl pm c' ctv)) (hcd : s.heap.CodeRec (.ref c') q)
    (hcc : cl.lookup ("heaps" : Str) = some cc) (hcell : s.heap.IsCell cc (some (.ref a))) (ha : s.heap.IsTuple a its.toArray) (hn : i = (n : Int)) (hy : its[n]? = some (.int y ty)) (hz : its.length ≤ sizeLine) :
    wpAny (model prog w) A (call (.ref f) [.int i t]) (PySem.W.KeyPure (.tuple [.int y, .int i]) s) (fun _ _ => False) s := by
  obtain ⟨pp, rfl⟩ := K.par
  obtain ⟨p1, p2, p3, p4, p5, rfl⟩ := K.bod
  obtain rfl := K.sco
  refine wpAny_call (PySem.codeAny_mono (R := fun r s' => ∃ v, r = .ok (.ret v) ∧ PySem.W.KeyPure (.tuple [.int y, .int i]) s v s') (PySem.W.kla_callFunE hroom hf rfl rfl rfl rfl hcd ?_) fun r s' hq => ?_)
  · have hb : bindArgs (PySem.W.kla_fn "<lambda>" q { posonlyargs := [], args := [{ arg := "place", annotation := none, pos := pp }], vararg := none, kwonlyargs := [], kw_defaults := [], kwarg := none, defaults := [] } (.Tuple [.Subscript (.Name "heaps" p1) (.Name "place" p2) p3, .Name "place" p4] 0 p5)
        { kind := .function, names := [(("place" : Str), .local), (("heaps" : Str), .free)], isGenerator := false, isCoroutine := false, more := [] } cl pm (.ref c') ctv) ⟨[.int i t], []⟩ = pure [(("place" : Str), .int i t)] := by
      rfl
    rw [hb]
    have lo : ∀ y ∈ [(("place" : Str), Value.int i t)], List.lookup y.1 [(("place" : Str), NameKind.local), (("heaps" : Str), NameKind.free)] = some .local := fun y hy => by
      have : y = (("place" : Str), Value.int i t) := by simpa using hy
      subst this
      rfl
    have nc : ∀ x ∈ [(("place" : Str), NameKind.local), (("heaps" : Str), NameKind.free)], x.2 ≠ .cell := fun x hx => by
      rcases List.mem_cons.mp hx with z | z
      · subst z; simp
      · have : x = (("heaps" : Str), NameKind.free) := by simpa using z
        subst this; simp
    refine wpAny_pure (wpAny_newFunctionEnv nc lo (fun h₁ hns hsb => ⟨lim.fresh _ hsb, ?_⟩) rfl)
    refine PySem.W.kla_codeExpr ?_
    have kp : ∀ b o, s.heap.get? b = some o → h₁.get? b = some o := fun b o e => hsb.extBut b o (Nat.ne_of_lt (Heap.lt_size e)) (Heap.get?_push_of_some _ e)
    obtain ⟨oc, hoc, hdc⟩ := id hcell
    obtain ⟨ot, hot, hdt⟩ := id ha
    refine PySem.wpAny_Tuple (PySem.wpAny_items_cons (PyProof.Rows.Subscript_ ?_) rfl)
    refine PySem.wpAny_Name (wpAny_loadName_free rfl rfl hcc ⟨oc, kp _ _ hoc, hdc⟩ ?_ (by decide)) (by decide)
    refine PySem.wpAny_Name (wpAny_loadName_local rfl rfl hns (v := .int i t) rfl ?_) (by decide)
    have hlt : n < its.length := by
      obtain ⟨h, _⟩ := List.getElem?_eq_some_iff.mp hy
      exact h
    have hsz : sizeLine = 16777216 := by decide
    have e63 : (2 : Int) ^ 63 = 9223372036854775808 := by decide
    have ha1 : Heap.IsTuple h₁ a its.toArray := ⟨ot, kp _ _ hot, hdt⟩
    refine PyProof.Rows.subscriptTail_builtinR (s := { s with heap := h₁, toks := s.toks + 1 }) (x := .int y ty) (T := "tuple") (id := "tuple.__getitem__") ⟨ot, kp _ _ hot, hdt.1⟩ PyProof.Rows.slot_tuple_getitem.lookup
      (PyProof.Rows.getItem_tuple (j := n) (Q := fun r s' => r = .int y ty ∧ _) ha1 (by omega) (by omega) ?_ (by simpa using hy) ⟨rfl, ?_⟩) (by rfl)
    · subst hn
      rw [List.size_toArray, seqIndex_of (by omega) (by omega)]
      rfl
    refine PySem.wpAny_items_cons (PySem.wpAny_Name (wpAny_loadName_local rfl rfl hns (v := .int i t) rfl (PySem.wpAny_items_nil ⟨by show 2 ≤ sizeLine; omega, ?_⟩)) (by decide)) rfl
    refine ⟨_, rfl, _, _, rfl, fun b o e => Heap.get?_push_of_some _ (kp b o e), ?_⟩
    exact .tuple (as := []) (Heap.get?_push_size _ rfl) rfl rfl (.cons (as := []) (bs := []) (.int y ty) (.cons (as := []) (bs := []) (.int i t) .nil))
  · obtain ⟨v, rfl, hq⟩ := hq
    exact hq
end

/-- the key of a place -/
def keyI (ys : List Int) (n : Int) : PyData := .tuple [.int (ys.getD n.toNat 0), .int n]
def leK (ys : List Int) (m n : Int) : Bool := PySem.W.dataLe false (keyI ys) m n
def tSortB (K : PySem.W.Frag) (T : List (Addr × Str)) (j : Nat) (σ : St) (Q : VK) (x : V) (H0 : Hp) : Prop := LamX.Tabs T H0 ∧ ∃ (l : Addr) (ns : List Int) (a : Addr) (ys : List Int), x = .ref l ∧ SqL K H0 l (ns.map V.int) ∧ σ[j]? = some (some (.ref a)) ∧ SqT K H0 a (ys.map V.int) ∧ (∀ n ∈ ns, 0 ≤ n ∧ n.toNat < ys.length) ∧
  ∀ H1, LamX.ExtN H0 H1 → LamX.Tabs T H1 → ∀ p, H1 p = none → Q (.ref p) (upd H1 p (.lst ((ns.mergeSort (leK ys)).map V.int)))
def tSortLam (K : PySem.W.Frag) (T : List (Addr × Str)) (j : Nat) (te : TE) : TE := fun σ H Q => te σ H (tSortB K T j σ Q)
def one1 (F : V → Hp → Prop) (vs : List V) (H : Hp) : Prop := match vs with
  | [x] => F x H
  | _ => False
theorem one1_of {F : V → Hp → Prop} {vs : List V} {H : Hp} (h : one1 F vs H) : ∃ x, vs = [x] ∧ F x H := by
  unfold one1 at h
  split at h
  · exact ⟨_, rfl, h⟩
  · exact h.elim
theorem alike_key (ys : List Int) (ns : List Int) : PySem.W.AllAlike (ns.map (keyI ys)) := by
  intro d hd d' hd'
  obtain ⟨x, _, rfl⟩ := List.mem_map.mp hd
  obtain ⟨y, _, rfl⟩ := List.mem_map.mp hd'
  rfl
section
variable {X : Cx} {pos : Pos}
theorem extN_sqL {K : PySem.W.Frag} {H H' : Hp} {a : Addr} {xs : List V} (e : LamX.ExtN H H') (h : SqL K H a xs) : SqL K H' a xs := by
  rcases h with (h | ⟨o, h⟩) | h
  · exact .inl (.inl (e _ _ h (by simp)))
  · exact .inl (.inr ⟨o, e _ _ h (by simp)⟩)
  · exact .inr h
theorem extN_sqT {K : PySem.W.Frag} {H H' : Hp} {a : Addr} {xs : List V} (e : LamX.ExtN H H') (h : SqT K H a xs) : SqT K H' a xs := by
  rcases h with (h | ⟨o, h⟩) | h
  · exact .inl (.inl (e _ _ h (by simp)))
  · exact .inl (.inr ⟨o, e _ _ h (by simp)⟩)
  · exact .inr h
theorem pe_sortLam {T : List (Addr × Str)} {j k : Nat} {e : Expr} {te : TE} {params : Arguments} {body : Expr} {scope : Scope} {c P : Addr} {p lpos kpos : Pos} (KL : KeyLam params body scope) (hr : Room k X.A) (hk : 1 ≤ k)
    (TB : LamX.TabB X.base X.mg c P) (hcode : X.env.code = .ref c) (hmT : (P, X.env.qual ++ "<lambda>") ∈ T) (hu : ∀ p ∈ T, p.1 = P → p.2 = X.env.qual ++ "<lambda>") (hdef : defaultsOf params X.env = ([], []))
    (he : PE X e te) (hm : X.mg "sorted" = none) (hN : X.N[j]? = some ("heaps" : Str)) (hv : X.env.scope.names.lookup ("heaps" : Str) = some .cell) (hg : Gl X "sorted" := by rfl)
    (hst : starEach [e] X.env = (false, eval e X.env) :: starEach [] X.env := by rfl) :
    PE X (.Call (.Name "sorted" p) [e] [⟨some "key", .Lambda params body scope lpos, kpos⟩] pos) (tSortLam X.K T j te) := by
  refine ⟨fun pins s σ H Q I h => ?_⟩
  refine wpAny_Call_Name_kw (ld_blt I hg hm bb_sorted ?_ (by decide) (by decide))
  refine PyProof.Rows.callWith_kw (thn ((pa_cons he pa_nil hst).run pos pins s σ H (one1 (tSortB X.K T j σ Q)) I h) fun us s1 ⟨vs, H1, I1, r1, q1⟩ => ?_) (by rw [hst]; rfl) (by rw [hst]; rfl) (by rfl) (by rfl)
  obtain ⟨x, rfl, hT, l, ns, a, ys, rfl, hl, ha, hA, hin, q⟩ := one1_of q1
  obtain rfl := Vals.ref1 r1
  have hfree : ∀ y ∈ scope.names, y.2 = .free → ∃ c, X.env.cells.lookup y.1 = some c := fun y hy e => by
    obtain rfl := KL.sco
    rcases List.mem_cons.mp hy with z | z
    · subst z; cases e
    · have : y = (("heaps" : Str), NameKind.free) := by simpa using z
      subst this
      exact I1.ok.has _ (.inl hv)
  show wpAny _ _ (evalAll ((do let v ← eval (.Lambda params body scope lpos) X.env; standAt pos; pure v) :: [])) _ _ s1
  refine wpAny_evalAll_cons (wpAny_bind (LamX.lam_make2 I1 TB hcode hmT hu hT hdef hfree fun f c' pm ctv H2 s2 I2 eN T2 hf hfn hfr hco => wpAny_bind (wpAny_standAt (wpAny_pure ?_))))
  refine wpAny_evalAll_nil ?_
  show wpAny _ _ (call (.builtin "sorted") [.ref l] [(("key" : Str), .ref f)]) _ _ s2
  obtain ⟨its, rv, pl, hz⟩ := I2.list (extN_sqL eN hl)
  obtain ⟨itA, rA, plA, hzA⟩ := I2.tuple (extN_sqT eN hA)
  -- the cell of heaps
  obtain ⟨m, hns, hlk⟩ := I2.loc
  obtain ⟨uh, ruh, luh⟩ := hlk j _ _ hN ha (.inr (.inl hv))
  obtain rfl : uh = Value.ref a := ruh
  have hk1 : X.env.kindOf "heaps" = some .cell := hv
  obtain ⟨cc, hcc, hcell⟩ : ∃ cc, X.env.cells.lookup ("heaps" : Str) = some cc ∧ s2.heap.IsCell cc (some (.ref a)) := by
    rcases luh with ⟨z, _⟩ | ⟨_, c2, h1, h2⟩
    · rw [hk1] at z; cases z
    · exact ⟨c2, h1, h2⟩
  have hclo : (cloFrom X.env.cells scope.names []).lookup ("heaps" : Str) = some cc := by
    obtain rfl := KL.sco
    show (cloFrom X.env.cells [(("place" : Str), NameKind.local), (("heaps" : Str), NameKind.free)] []).lookup ("heaps" : Str) = some cc
    have e1 : cloFrom X.env.cells [(("place" : Str), NameKind.local), (("heaps" : Str), NameKind.free)] [] = [(("heaps" : Str), (X.env.cells.lookup ("heaps" : Str)).getD 0)] := rfl
    rw [e1, hcc]
    rfl
  have hun := hr.un
  have hdp := hr.dp
  have eR : ∀ {us : List Value} {ns : List Int}, Vals (ns.map V.int) us → PySem.W.EachIs (fun u n => RelV (.int n) u) us ns := fun h => each_int h
  have hlen : its.length = ns.length := by
    have := rv.length
    rw [List.length_map] at this
    exact this.symm
  have hlA : itA.length = ys.length := by
    have := rA.length
    rw [List.length_map] at this
    exact this.symm
  rw [List.length_map] at hz hzA
  obtain ⟨oc, vsc, tc, c1, c2, c3⟩ : ∃ (oc : Obj) (vs : Array Value) (t : Tok), s2.heap.get? c' = some oc ∧ oc.data = .fields vs ∧ vs[1]? = some (.str (X.env.qual ++ "<lambda>") t) := by
    exact (I2.hok c' _ hco).1
  refine PySem.W.sorted_key_data (β := Int) (vs := its) (bs := ns) (R := fun u n => RelV (.int n) u) (b := false) (keyI ys) pl.isList (eR rv) (alike_key ys ns) (PySem.W.Sortable.tuples fun b => ⟨_, _, rfl⟩) hz (fun n hn => ?_) (PyProof.Rows.ksk_s1 _ _) (fun _ => PyProof.Rows.ksk_l1 _ _) (fun _ => PyProof.Rows.ksk_t1 _ _) (fun u n hu2 hn hp tk hk2 => ?_) fun out c0 h' tk k1 k2 k3 k4 k5 => ?_
  · have : (keyI ys n).depth = 1 := by simp [keyI, PyData.depth, PyData.depthAll]
    show X.A.units + 2 + (keyI ys n).depth < cLine
    omega
  · obtain ⟨tk0, rfl⟩ := hu2
    obtain ⟨n0, n1⟩ := hin n hn
    obtain ⟨y, hy⟩ : ∃ y, ys[n.toNat]? = some y := ⟨_, List.getElem?_eq_getElem n1⟩
    obtain ⟨uy, hu1, ⟨ty, rfl⟩⟩ := rA.get (i := n.toNat) (x := V.int y) (by rw [List.getElem?_map, hy]; rfl)
    have hkey : keyI ys n = .tuple [.int y, .int n] := by
      unfold keyI
      rw [List.getD_eq_getElem?_getD, hy]
      rfl
    rw [hkey]
    obtain ⟨ocell, hoc, hdc⟩ := hcell
    obtain ⟨otup, hot, hdt⟩ := plA
    refine lam_call (s := { s2 with heap := hp, toks := tk }) (n := n.toNat) (its := itA) (ty := ty) KL ?_ (I2.nolimit.keeps hk2) (hk2 _ _ hf) ⟨c', oc, vsc, tc, rfl, hk2 _ _ c1, c2, c3⟩ hclo ⟨ocell, hk2 _ _ hoc, hdc⟩ ⟨otup, hk2 _ _ hot, hdt⟩ (by omega) hu1 (by omega)
    show X.A.depth < recursionLimit
    omega
  · refine ⟨.ref (s2.heap.objs.size + 1), upd H2 (s2.heap.objs.size + 1) (.lst ((ns.mergeSort (leK ys)).map V.int)), ?_, rfl, q _ eN T2 _ (I2.hok.fresh (Nat.le_succ _))⟩
    refine I2.laid (t' := tk) k1 (Nat.le_succ _) ⟨?_, out, c0, int_each k5, k3⟩
    rw [List.length_map, List.length_mergeSort]
    exact hz
end
end Pu

namespace Pu
open PySem L2
/-! ### sorted(xs, key=lambda place: (heaps[place], place)) -/
def wSortLam (j : Nat) (we : WEx) : WLs := fun S A B => we S (fun d c S1 => match d, S1[j]? with
  | .list xs, some (.im (.tuple hs)) => ∃ (ns ys : List Int), xs = ns.map PyData.int ∧ hs = ys.map PyData.int ∧ (∀ n ∈ ns, 0 ≤ n ∧ n.toNat < ys.length) ∧ A ((ns.mergeSort (leK ys)).map PyData.int) True S1
  | _, _ => False) B
section
variable {X : Cx} {W : WM} {k : Nat} {pos : Pos}
theorem so_sortLam [Tbs] (j : Nat) {e : Expr} {we : WEx} {params : Arguments} {body : Expr} {scope : Scope} {c P : Addr} {p lpos kpos : Pos} (a : At X W k) (hk : 1 ≤ k) (TB : LamX.TabB X.base X.mg c P) (hmT : (P, X.env.qual ++ "<lambda>") ∈ Tbs.T)
    (hu : ∀ p ∈ Tbs.T, p.1 = P → p.2 = X.env.qual ++ "<lambda>") (he : SE X W e we) (hm : X.mg "sorted" = none)
    (KL : KeyLam params body scope := by exact ⟨⟨_, rfl⟩, ⟨_, _, _, _, _, rfl⟩, rfl⟩) (hcode : X.env.code = .ref c := by rfl) (hdef : defaultsOf params X.env = ([], []) := by rfl)
    (hN : X.N[j]? = some ("heaps" : Str) := by rfl) (hv : X.env.scope.names.lookup ("heaps" : Str) = some .cell := by rfl) (hg : Gl X "sorted" := by rfl)
    (hst : starEach [e] X.env = (false, eval e X.env) :: starEach [] X.env := by rfl) :
    SO X W (.Call (.Name "sorted" p) [e] [⟨some "key", .Lambda params body scope lpos, kpos⟩] pos) (wSortLam j we) := by
  obtain ⟨te, pe, se⟩ := he.ex
  refine ⟨_, pe_sortLam KL a.room hk TB hcode hmT hu hdef pe hm hN hv hg hst, ?_⟩
  intro D0 S σ H o A B Q E hw kk kx
  refine se D0 S σ H o _ B _ E hw (fun d cc S1 v H1 h1 E1 x1 V1 => ?_) kx
  split at h1
  · rename_i xs hs hS
    obtain ⟨ns, ys, rfl, rfl, hin, h1⟩ := h1
    obtain ⟨l, vs, rfl, el, rl, _⟩ := V1.items E1
    obtain ⟨vh, hσ, rh⟩ := E1.sl j _ hS
    obtain ⟨ah, ws, rfl, ea, ra⟩ := rp_tup rh
    have ev := rl.ints
    have ew := ra.ints
    subst ev
    subst ew
    refine ⟨E1.tb, l, ns, ah, ys, rfl, SqL.at el, hσ, SqT.at (co_tup (vw_le _ _ ea)), hin, fun H2 eN T2 p hp => ?_⟩
    have le : Lh H1 H2 := ⟨(fun b u e n => eN b u e fun ps z => by rw [z] at n; cases n), fun _ => T2⟩
    exact kk _ _ S1 _ p H2 h1 (E1.xe le) (x1.trans (XE.of le)) hp ⟨RpAll.of_ints _, fun _ => RpAll.of_ints _⟩
  · exact h1.elim
end
section
variable {P : Program} {w : World} {K : PySem.W.Frag} {mg : Str → Option Value} {base : Heap}
/-- THE RULE for a def in which functions are made: its code object is at c -/
theorem def_okL [Tbs] {x : Str} {st : Stmt} {f c : Addr} {fd : FuncData} {N ps : List Str} {k : Nat} {sp : Spc} (F : Fun K x x st f fd) (hfd : fd.code = .ref c) (S : FnScope N ps (defScope st))
    (hb : ∀ (A : Around) (outer : List PySem.Env) (s : Shared) (H : Hp) (E : XK), At (cxOf (L2.CX P w) P w K mg base N x (defScope st) f (.ref c) A outer s H E) ⟨mg, fun cls d _ H' => E cls d H'⟩ k →
      ∃ wb, SSs (cxOf (L2.CX P w) P w K mg base N x (defScope st) f (.ref c) A outer s H E) ⟨mg, fun cls d _ H' => E cls d H'⟩ (defBody st) wb ∧
        ∀ ds A B, ds.length = ps.length → sp ds A B → wb (startS N.length ds) ⟨fun _ => A .none, fun d _ _ => A d, fun _ => False, fun _ => False, fun x _ => B x⟩) :
    FnOk P w K mg base (L2.CX P w) (k + 1) f fd ps (spOf mg ps.length sp) := by
  obtain ⟨oc, od, kV, doc, pm, an, cdv, ct, osl, rfl, lk, hcd⟩ := F.ex
  obtain rfl : cdv = .ref c := hfd
  refine fn_of lk hcd S (fun vs H Q E h => spOf_len h) fun A outer s H vs Q E hr h => ?_
  obtain ⟨tb, ds, D0, A', B', hl, hd, r, hsp, hA, hB⟩ := h
  have at_ : At (cxOf (L2.CX P w) P w K mg base N x (defScope st) f (.ref c) A outer s H E) ⟨mg, fun cls d _ H' => E cls d H'⟩ k := by
    refine ⟨hr, rfl, takes_of rfl rfl rfl rfl, rfl, S.nd, passes_of rfl⟩
  obtain ⟨wb, hp, hw⟩ := hb A outer s H E at_
  obtain ⟨t, pt, st'⟩ := hp.ex
  refine ⟨t, pt, ?_⟩
  have ev : ∀ {H' : Hp} {o' : Ow} {v : V} {d : PyData}, Rp (vt D0 o' (co H')) v d → Rp (hid D0 (co H')) v d := fun {H' o' v d} q => q.mono fun a u e => by
    unfold vt at e
    unfold hid
    split at e
    · cases e
    · rename_i hn
      rw [if_neg (fun z => hn (by rw [z, Bool.true_or]))]
      exact e
  have le : ∀ {H' : Hp} {o' : Ow} {S' : Slots} {σ' : St}, Env D0 S' σ' H' o' → Fr (fun _ => none) H o' H' → Lh H H' := fun {H' o' S' σ'} E' f => ⟨fun a u e n => (f a u rfl e n).1, fun _ => E'.tb⟩
  exact st' D0 _ _ H _ _ _ (env_start tb hd r) (hw ds A' B' hl hsp)
    ⟨fun S' σ' H' o' h E' f => hA _ _ _ h (le E' f) .non, fun _ _ _ _ h => h.elim, fun _ _ _ _ h => h.elim,
      fun d c S' v σ' H' o' h E' f V => hA _ _ _ h (le E' f) (ev V.1), fun x S' σ' cls dd H' o' h E' f ok => hB x cls dd H' h (le E' f) ok⟩
end
end Pu

namespace Pu
open PySem L2
/-- the table of the code object at c -/
def tabK (K : PySem.W.Frag) (c : Addr) : Addr := match K.lookup c with
  | some o => (match o.data with
    | .fields vs => (match (vs[11]? : Option Value) with
      | some (.ref P) => P
      | _ => 0)
    | _ => 0)
  | none => 0
/-- law's walk, where defs make functions: cs, their code objects and tables; qs, the tables and the names of what is made -/
theorem law_walkT {l : PySem.W.OpenLaw} {q qv : Program} {loose : List Str} {lv : List (Str × PySem.W.WData)} {YP : World → Heap → Prop} {d : DefRec} {FK : PySem.Params → PySem.W.Frag} {k : Nat} {ts : List Addr} (m : l.most = some 63) (df : d.params.defaults = []) (rm : Room k callerA)
    (ki : ∀ w g, YP w g → (FK w.params).In g ∧ ∀ P ∈ ts, g.get? P = some { cls := .none, data := .fields #[] })
    (F : ∀ (w : World) (mg : Str → Option Value) (fa : Addr) (g : Heap), (FK w.params).In g → g.Ns mainGlobals mg → PySem.W.LooseAre lv mg g → mg d.name = some (.ref fa) →
      ∃ (fd : FuncData) (cs : List (Addr × Addr)) (qs : List (Addr × Str)), (∀ p ∈ cs, p.2 ∈ ts ∧ (FK w.params).lookup p.2 = none ∧ PySem.W.codeHdIn (FK w.params) p.1 p.2 = true) ∧ (∀ p ∈ qs, ∃ c, (c, p.1) ∈ cs) ∧
        (∀ (s : Shared) (v : Value), BindsTo s fd ⟨[v], []⟩ [("_law_script", v)]) ∧ ∀ base : Heap, (FK w.params).In base → base.Ns mainGlobals mg → (∀ p ∈ cs, LamX.TabB base mg p.1 p.2) → FnOk l.prog w (FK w.params) mg base (L2.CX l.prog w) k fa fd ["_law_script"] (@spLaw ⟨qs⟩ (FK w.params))) :
    PySem.W.WalkO q loose (PySem.W.XL qv lv) YP l.row.toRowW d [] (fun f vs => PySem.call f vs) := by
  refine Att.attach_call m df fun w s0 s1 mg mb fa ob pm cd doc a vs ns G Y ho hd hcd hmg hobj hints hlen hg => ?_
  obtain ⟨kI, kT⟩ := ki w _ Y
  obtain ⟨fd, cs, qs, hcs, hqs, hb, hF⟩ := F w mg fa _ kI G.T.g G.X.2 hmg
  refine LamX.law_callTs (cs := cs) kI G.T.g G.T.b G.T.builtins G.T.nolimit hg (fun p hp => kT _ (hcs p hp).1) (fun p hp => (hcs p hp).2.1) (fun p hp => ?_) G.T.bmain hobj hints (by rw [sizeLine_eq]; omega) rm hF hb (fun H hH hS => ⟨fun p hp => ?_, a, ns, rfl, hS, hlen, fun _ => rfl⟩) fun H e s' z => ?_
  · exact PySem.W.codeHd_of_K kI (hcs p hp).2.2
  · obtain ⟨c, hc⟩ := hqs p hp
    exact LamX.TabS.nil (hH _ hc)
  · obtain ⟨_, _, _, _, _, _, _, _, _, _, _, _, z⟩ := z
    exact z
end Pu

namespace Pu
open PySem L2
section
variable {X : Cx} {W : WM} {k : Nat} {pos : Pos}
/-- what stood in H less its tuples is hidden besides -/
def hidAll (D0 : Addr → Bool) (H : Hp) : Addr → Bool := fun a => D0 a || (match co H a with
  | some u => !isTup u
  | none => false)
/-- x, y = f(flat data), y a new list: the frame's own -/
def wAsgO (i j : Nat) (sp : Spc) (wa : WLs) : WS := fun S P => wa S (fun ds _ S1 => flats ds = true ∧ sp ds (fun d => ∃ d1 xs, d = .tuple [d1, .list xs] ∧ flat d1 = true ∧ flats xs = true ∧ P.nx ((S1.set i (.im d1)).set j (.ol xs))) (fun x => P.ex x S1)) P.ex
theorem ss_asgO [Tbs] {jj n kt : Nat} (i j : Nat) {sp : Spc} {f x y : Str} {p px py pt : Pos} {e : Expr} {es : List Expr} {wa : WLs} (a : At X W k) (F : Def X.prog X.w X.K X.mg X.base jj f n (spOf X.mg n sp)) (hj : jj ≤ k) (ha : SA X W (e :: es) wa) (hij : i ≠ j := by decide)
    (hNi : X.N[i]? = some x := by rfl) (hNj : X.N[j]? = some y := by rfl) (hx : Loc X.env.scope x := by first | exact Or.inl rfl | exact Or.inr rfl) (hy : Loc X.env.scope y := by first | exact Or.inl rfl | exact Or.inr rfl)
    (hfx : X.fn x = true ∨ X.env.scope.names.lookup x = some .local := by first | exact .inl rfl | exact .inr rfl) (hfy : X.fn y = true ∨ X.env.scope.names.lookup y = some .local := by first | exact .inl rfl | exact .inr rfl)
    (hg : Gl X f := by rfl) (hdb : (f == ("__debug__" : Str)) = false := by decide)
    (he : starEach (e :: es) X.env = (false, eval e X.env) :: starEach es X.env := by rfl) (hpl : (backTo pos (starEach es X.env)).any (·.1) = false := by rfl) (hn : (e :: es).length = n := by rfl)
    (hnl : (assignEach [.Name x px, .Name y py] X.env).length = 2 := by rfl) (hst : (assignEach [.Name x px, .Name y py] X.env).findIdx? (·.1) = none := by rfl)
    {spos : Pos} (hs : swapsWithSole [.Tuple [.Name x px, .Name y py] kt pt] (.Call (.Name f p) (e :: es) [] pos) spos.line X.env = pure false := by rfl) (hw : swappedStores [.Tuple [.Name x px, .Name y py] kt pt] (.Call (.Name f p) (e :: es) [] pos) X.env = pure none := by rfl)
    (h1 : (assignEach [.Tuple [.Name x px, .Name y py] kt pt] X.env).map (·.2) = [assign (.Tuple [.Name x px, .Name y py] kt pt) X.env] := by rfl) :
    SS X W (.Assign [.Tuple [.Name x px, .Name y py] kt pt] (.Call (.Name f p) (e :: es) [] pos) spos) (wAsgO i j sp wa) := by
  obtain ⟨ta, pa, sa⟩ := ha.ex
  obtain ⟨fa, fd, ps, G, hm, hk, hb, hps⟩ := F.ex
  refine ⟨_, ps_asg (pe_callS G (a.room.mono hj) hg hm hk hb a.tk pa hdb he hpl) (pg_tup a.calm (pgs_cons (pg_name (i := i) a.nd hNi hx hfx) (pgs_cons (pg_name (i := j) a.nd hNj hy hfy) pgs_nil)) hnl hst) hs hw h1, ?_⟩
  intro D0 S σ H o P D E hw g
  refine sa D0 S σ H o _ P.ex _ E hw (fun ds c S1 vs H1 hl h1 E1 x1 V1 => ?_) g.xw
  obtain ⟨hfl, h1⟩ := h1
  have dead : ∀ b, hidAll D0 H1 b = true → ∃ u, co H1 b = some u ∧ isTup u = false := fun b hb => by
    unfold hidAll at hb
    rw [Bool.or_eq_true] at hb
    rcases hb with hb | hb
    · exact E1.dead b hb
    · split at hb
      · rename_i u hu
        exact ⟨u, hu, by simpa using hb⟩
      · cases hb
  have rv : RpAll (hid (hidAll D0 H1) (co H1)) vs ds := V1.1.flat (fun b xs e => by
    have e2 := vt_le _ _ e
    refine hid_at ?_ e2
    unfold hidAll
    rw [e2]
    cases q : D0 b with
    | false => rfl
    | true =>
      obtain ⟨u, q1, q2⟩ := E1.dead b q
      rw [e2] at q1
      cases q1
      cases q2) hfl
  refine ⟨E1.tb, ds, hidAll D0 H1, _, _, hl.trans hn, dead, rv, h1, fun d v H' hd le r => ?_, fun x cls dd H' hx le ok => g.ex x S1 σ cls dd H' o hx (E1.xe le) (x1.trans (XE.of le)).fr (by rw [a.mq]; exact ok)⟩
  obtain ⟨d1, xs, rfl, f1, f2, hnx⟩ := hd
  obtain ⟨t, ws, rfl, et, rt⟩ := rp_tup r
  obtain ⟨v1, v2, rfl⟩ : ∃ v1 v2, ws = [v1, v2] := by
    cases rt with
    | cons a b =>
      cases b with
      | cons c d => cases d; exact ⟨_, _, rfl⟩
  have r1 : Rp (hid (hidAll D0 H1) (co H')) v1 d1 := by cases rt with | cons a b => exact a
  have r2 : Rp (hid (hidAll D0 H1) (co H')) v2 (.list xs) := by
    cases rt with
    | cons a b => cases b with | cons c d => exact c
  obtain ⟨q, us, rfl, eq, rq⟩ := rp_lst r2
  obtain ⟨hq1, hq2⟩ := hid_co eq
  have eH := co_lst hq2
  -- q is new
  have fq : Fsh H1 q := fun w z => by
    cases nt : isTbl w with
    | true => rfl
    | false =>
      have z2 := le.k _ _ z nt
      rw [eH] at z2
      cases z2
      unfold hidAll at hq1
      rw [co_of z] at hq1
      simp [isTup, core] at hq1
  have le2 : Lh H1 (rm H' q) := ⟨fun b u e n => by
    rw [rm_ne (fun z => by rw [z] at e; rw [fq u e] at n; cases n)]
    exact le.k b u e n, fun t => (le.tb t).but fun b u e y => by
      rw [rm_ne (fun z => by rw [z, eH] at e; cases e; cases y)]
      exact e⟩
  have E2 := E1.xe le2
  have tupw : ∀ b ys, hid (hidAll D0 H1) (co H') b = some (.tup ys) → vw D0 o (co (rm H' q)) b = some (.tup ys) := fun b ys e => by
    obtain ⟨_, e2⟩ := hid_co e
    have ne : b ≠ q := fun z => by rw [z, hq2] at e2; cases e2
    have e3 : co (rm H' q) b = some (.tup ys) := by
      unfold co
      rw [rm_ne ne]
      exact e2
    exact tup_vw E2 e3
  have w1 := r1.flat tupw f1
  have wq := rq.flat tupw f2
  have E3 := E2.put i w1
  have E4 := E3.own j rm_at wq
  have eu : upd (rm H' q) q (.lst us) = H' := upd_rm eH
  rw [eu] at E4
  have f3 : Fr o H1 (ow1 o q j) H' := by
    have := (XE.of le2).fr.trans (fr_own (D0 := D0) (S := S1) (σ := σ) (o := o) (i := j) (u := .lst us) (rm_at (H := H') (D := q)))
    rw [eu] at this
    exact this
  refine ⟨t, [v1, .ref q], rfl, SqT.at (co_tup (hid_co et).2), rfl, v1, [.ref q], rfl, .ref q, [], rfl, rfl, ?_⟩
  exact g.nx _ _ _ _ hnx E4 (x1.fr.trans f3)
end
end Pu

namespace Pu
open PySem L2

/-! ### plain laws of the readings -/
theorem lc_ok {α : Type} {wg : WTg} {wt : WTx} {we : WEx} {c : Prop} {S : Slots} {K : List PyData → Prop → Prop} (enc : α → PyData) (p : α → Bool) (f : α → PyData) : ∀ (xs : List α) (acc : List PyData) (ca : Prop),
    (∀ x ∈ xs, ∀ (Yes : PyData → Prop → Prop) (No : Prop), (p x = true → Yes (f x) True) → (p x = false → No) →
      wg (enc x) c S fun S1 => wt S1 (fun b S2 => S2 = S1 ∧ if b = true then we S1 (fun e ce S3 => S3 = S1 ∧ Yes e ce) noX else No) noX) →
    acc.length + xs.length ≤ 1000000 → ca → (∀ c' : Prop, c' → K (acc ++ (xs.filter p).map f) c') → lcL wg wt we c S (xs.map enc) acc ca K
  | [], acc, ca, _, _, hc, hK => by
    have q := hK ca hc
    rw [List.filter_nil, List.map_nil, List.append_nil] at q
    exact q
  | x :: xs, acc, ca, h, hl, hc, hK => by
    show wg (enc x) c S fun S1 => wt S1 (fun b S2 => S2 = S1 ∧ if b = true then we S1 (fun e ce S3 => S3 = S1 ∧ acc.length < sizeLine ∧ lcL wg wt we c S (xs.map enc) (acc ++ [e]) (ca ∧ (ce ∨ flat e = true)) K) noX else lcL wg wt we c S (xs.map enc) acc ca K) noX
    rw [List.length_cons] at hl
    refine h x List.mem_cons_self (fun e ce => acc.length < sizeLine ∧ lcL wg wt we c S (xs.map enc) (acc ++ [e]) (ca ∧ (ce ∨ flat e = true)) K) _ (fun hp => ⟨by rw [sizeLine_eq]; omega, ?_⟩) fun hp => ?_
    · refine lc_ok enc p f xs _ _ (fun y hy => h y (List.mem_cons_of_mem _ hy)) (by rw [List.length_append]; show acc.length + 1 + xs.length ≤ _; omega) ⟨hc, .inl trivial⟩ fun c' hc' => ?_
      have q := hK c' hc'
      rw [List.filter_cons, if_pos hp, List.map_cons] at q
      rw [List.append_assoc]
      exact q
    · refine lc_ok enc p f xs _ _ (fun y hy => h y (List.mem_cons_of_mem _ hy)) (by omega) hc fun c' hc' => ?_
      have q := hK c' hc'
      rw [List.filter_cons, if_neg (by rw [hp]; exact Bool.false_ne_true)] at q
      exact q
theorem for_ok {α τ : Type} {wg : WTg} {wb : WS} {c : Prop} {P : En} (enc : α → PyData) (step : τ → α → τ) (Rel : τ → Slots → Prop) : ∀ (xs : List α) (s : τ) (S : Slots),
    (∀ x ∈ xs, ∀ s S, Rel s S → ∀ Nx : Slots → Prop, (∀ S', Rel (step s x) S' → Nx S') → wg (enc x) c S fun S1 => wb S1 { P with nx := Nx, ct := Nx, bk := P.nx }) →
    Rel s S → (∀ S', Rel (xs.foldl step s) S' → P.nx S') → forL wg wb c P (xs.map enc) S
  | [], s, S, _, hr, hn => hn S hr
  | x :: xs, s, S, h, hr, hn => by
    show wg (enc x) c S fun S1 => wb S1 { P with nx := forL wg wb c P (xs.map enc), ct := forL wg wb c P (xs.map enc), bk := P.nx }
    exact h x List.mem_cons_self s S hr _ fun S' hr' => for_ok enc step Rel xs (step s x) S' (fun y hy => h y (List.mem_cons_of_mem _ hy)) hr' hn
/-- a loop that may leave early: Inv holds of the items that are left -/
theorem for_inv {wg : WTg} {wb : WS} {c : Prop} {P : En} (Inv : List PyData → Slots → Prop) : ∀ (ds : List PyData) (S : Slots),
    (∀ d r S, Inv (d :: r) S → ∀ Nx : Slots → Prop, (∀ S', Inv r S' → Nx S') → wg d c S fun S1 => wb S1 { P with nx := Nx, ct := Nx, bk := P.nx }) →
    Inv ds S → (∀ S', Inv [] S' → P.nx S') → forL wg wb c P ds S
  | [], S, _, hr, hn => hn S hr
  | d :: r, S, h, hr, hn => h d r S hr _ fun S' hr' => for_inv Inv r S' h hr' hn
theorem wh_ok {τ : Type} {wt : WTx} {wb : WS} {P : En} (Rel : τ → Slots → Prop) (m : τ → Nat)
    (h : ∀ s S, Rel s S → ∀ (Nx : Slots → Prop), (∀ s' S', m s' < m s → Rel s' S' → Nx S') → wt S (fun b S1 => if b = true then wb S1 { P with nx := Nx, ct := Nx, bk := P.nx } else P.nx S1) P.ex) : ∀ (n : Nat) (s : τ) (S : Slots), m s < n → Rel s S → whL wt wb P n S
  | 0, s, S, hm, _ => absurd hm (Nat.not_lt_zero _)
  | n + 1, s, S, hm, hr => h s S hr (whL wt wb P n) fun s' S' hlt hr' => wh_ok Rel m h n s' S' (Nat.lt_of_lt_of_le hlt (Nat.le_of_lt_succ hm)) hr'
theorem rangeD_map (lo : Int) (n : Nat) : rangeD lo n = (List.range n).map fun (i : Nat) => PyData.int (lo + (i : Int)) := rfl
theorem rangeD0 (n : Nat) : rangeD 0 n = (List.range n).map fun (i : Nat) => PyData.int (i : Int) := by
  unfold rangeD
  refine List.map_congr_left fun i _ => ?_
  rw [Int.zero_add]

/-! ### the data of this program -/
abbrev eI (i : Int) : PyData := .int i
abbrev eN (i : Nat) : PyData := .int (i : Int)
def eH (h : List Int) : PyData := .tuple (h.map .int)
def eP (s : Nat × Nat) : PyData := .tuple [.int (s.1 : Int), .int (s.2 : Int)]
theorem flat_ints (l : List Int) : flats (l.map PyData.int) = true := flats_iff.mpr fun x hx => by
  obtain ⟨i, _, rfl⟩ := List.mem_map.mp hx
  rfl
theorem flat_eH (h : List Int) : flat (eH h) = true := by
  unfold eH
  rw [flat]
  exact flat_ints h
theorem flat_eP (s : Nat × Nat) : flat (eP s) = true := rfl
theorem canLay_ints : ∀ (l : List Int), PyData.canLayAll0 (l.map PyData.int) = true
  | [] => rfl
  | x :: r => by
    show PyData.canLayAll0 (.int x :: r.map PyData.int) = true
    rw [PyData.canLayAll0, canLay_ints r]
    rfl
theorem canLay_eH (h : List Int) : PyData.canLay0 (eH h) = true := by
  unfold eH
  rw [PyData.canLay0]
  exact canLay_ints h
theorem depth_eH (h : List Int) : (eH h).depth = 1 := by
  unfold eH
  rw [PyData.depth, PySem.W.depth_ints]
theorem shaped_of {d : PyData} (h1 : d.canLay0 = true) (h2 : d.depth ≤ 64) : SeqAt.shaped d = true := by
  unfold SeqAt.shaped
  rw [h1, decide_eq_true h2]
  rfl
theorem shaped_int (i : Int) : SeqAt.shaped (.int i) = true := shaped_of (by simp [PyData.canLay0]) (by simp [PyData.depth])
theorem shaped_none : SeqAt.shaped .none = true := shaped_of (by simp [PyData.canLay0]) (by simp [PyData.depth])
theorem shaped_bool (b : Bool) : SeqAt.shaped (.bool b) = true := shaped_of (by simp [PyData.canLay0]) (by simp [PyData.depth])
theorem shaped_eH (h : List Int) : SeqAt.shaped (eH h) = true := shaped_of (canLay_eH h) (by rw [depth_eH]; omega)
theorem canLay_eP (s : Nat × Nat) : PyData.canLay0 (eP s) = true := by simp [eP, PyData.canLay0, PyData.canLayAll0]
theorem depth_eP (s : Nat × Nat) : (eP s).depth = 1 := by simp [eP, PyData.depth, PyData.depthAll]
theorem shaped_eP (s : Nat × Nat) : SeqAt.shaped (eP s) = true := shaped_of (canLay_eP s) (by rw [depth_eP]; omega)
theorem canLayAll_map {α : Type} {f : α → PyData} (h : ∀ x, (f x).canLay0 = true) : ∀ l : List α, PyData.canLayAll0 (l.map f) = true
  | [] => rfl
  | x :: r => by
    show PyData.canLayAll0 (f x :: r.map f) = true
    rw [PyData.canLayAll0, canLayAll_map h r, h x]
    rfl
theorem depthAll_map {α : Type} {f : α → PyData} {n : Nat} (h : ∀ x, (f x).depth ≤ n) : ∀ l : List α, PyData.depthAll (l.map f) ≤ n
  | [] => by show PyData.depthAll [] ≤ n; rw [PyData.depthAll]; omega
  | x :: r => by
    show PyData.depthAll (f x :: r.map f) ≤ n
    rw [PyData.depthAll]
    exact Nat.max_le.mpr ⟨h x, depthAll_map h r⟩
theorem shaped_list {α : Type} {f : α → PyData} {n : Nat} (h1 : ∀ x, (f x).canLay0 = true) (h2 : ∀ x, (f x).depth ≤ n) (hn : n ≤ 60) (l : List α) : SeqAt.shaped (.list (l.map f)) = true := by
  refine shaped_of ?_ ?_
  · rw [PyData.canLay0]
    exact canLayAll_map h1 l
  · rw [PyData.depth]
    have := depthAll_map h2 l
    omega
theorem flats_map {α : Type} {f : α → PyData} (h : ∀ x, flat (f x) = true) (l : List α) : flats (l.map f) = true := flats_iff.mpr fun x hx => by
  obtain ⟨i, _, rfl⟩ := List.mem_map.mp hx
  exact h i
/-! equality of data -/
theorem eqv_int (i j : Int) : PyData.eqv (.int i) (.int j) = decide (i = j) := by
  rw [PyData.eqv]
  exact Bool.beq_eq_decide_eq i j
theorem eqvAll_map {α : Type} {f : α → PyData} [DecidableEq α] (h : ∀ x y, PyData.eqv (f x) (f y) = decide (x = y)) : ∀ a b : List α, PyData.eqvAll (a.map f) (b.map f) = decide (a = b)
  | [], [] => by simp [PyData.eqvAll]
  | [], _ :: _ => by simp [PyData.eqvAll]
  | _ :: _, [] => by simp [PyData.eqvAll]
  | x :: a, y :: b => by
    show PyData.eqvAll (f x :: a.map f) (f y :: b.map f) = _
    rw [PyData.eqvAll, h x y, eqvAll_map h a b]
    by_cases e1 : x = y
    · by_cases e2 : a = b
      · simp [e1, e2]
      · simp [e1, e2]
    · simp [e1]
theorem eqv_eH (a b : List Int) : PyData.eqv (eH a) (eH b) = decide (a = b) := by
  unfold eH
  rw [PyData.eqv]
  exact eqvAll_map eqv_int a b
theorem eqv_list {α : Type} {f : α → PyData} [DecidableEq α] (h : ∀ x y, PyData.eqv (f x) (f y) = decide (x = y)) (a b : List α) : PyData.eqv (.list (a.map f)) (.list (b.map f)) = decide (a = b) := by
  rw [PyData.eqv]
  exact eqvAll_map h a b
theorem eqv_eP (a b : Nat × Nat) : PyData.eqv (eP a) (eP b) = decide (a = b) := by
  unfold eP
  simp only [PyData.eqv, PyData.eqvAll, Bool.and_true, Bool.beq_eq_decide_eq]
  obtain ⟨a1, a2⟩ := a
  obtain ⟨b1, b2⟩ := b
  by_cases e1 : a1 = b1
  · by_cases e2 : a2 = b2
    · simp [e1, e2]
    · have : ¬ (a2 : Int) = b2 := by omega
      simp [e1, e2, this]
  · have : ¬ (a1 : Int) = b1 := by omega
    simp [e1, this]
theorem any_map {α : Type} {f : α → PyData} [DecidableEq α] (h : ∀ x y, PyData.eqv (f x) (f y) = decide (x = y)) (x : α) : ∀ l : List α, ((l.map f).any fun z => PyData.eqv z (f x)) = decide (x ∈ l)
  | [] => by simp
  | y :: l => by
    show (PyData.eqv (f y) (f x) || ((l.map f).any fun z => PyData.eqv z (f x))) = _
    rw [h y x, any_map h x l]
    by_cases e : y = x
    · subst e
      simp
    · have e' : x ≠ y := fun z => e z.symm
      simp [e, e']
/-! places -/
theorem atD_int {h : List Int} {i : Nat} (hi : i < h.length) : atD (h.map PyData.int) (i : Int) = some (.int (h.getD i 0)) := by
  unfold atD ixN
  rw [List.length_map, if_pos (by omega), if_pos (by omega)]
  show (h.map PyData.int)[(i : Int).toNat]? = _
  rw [Int.toNat_natCast, List.getElem?_map, List.getElem?_eq_getElem hi, List.getD_eq_getElem?_getD, List.getElem?_eq_getElem hi]
  rfl
theorem atD_map {α : Type} {f : α → PyData} {l : List α} {i : Nat} {x : α} (h : l[i]? = some x) : atD (l.map f) (i : Int) = some (f x) := by
  have hi := (List.getElem?_eq_some_iff.mp h).1
  unfold atD ixN
  rw [List.length_map, if_pos (by omega), if_pos (by omega)]
  show (l.map f)[(i : Int).toNat]? = _
  rw [Int.toNat_natCast, List.getElem?_map, h]
  rfl
theorem ixN_nat {n i : Nat} (h : i < n) : ixN n (i : Int) = some i := by
  unfold ixN
  rw [if_pos (by omega), if_pos (by omega), Int.toNat_natCast]
theorem seq_cut {w1 w2 : WS} {S : Slots} {P : En} (Rel : Slots → Prop) (h1 : ∀ Nx : Slots → Prop, (∀ S, Rel S → Nx S) → w1 S { P with nx := Nx }) (h2 : ∀ S, Rel S → w2 S P) : wSeq w1 w2 S P := h1 _ h2
end Pu

namespace Pu
open PySem L2
def Pure (n m : Nat) (sp : Spc) (w : WS) : Prop := ∀ (ds : List PyData) (A : PyData → Prop) (B : XC → Prop), ds.length = m → sp ds A B → w (startS n ds) ⟨fun _ => A .none, fun d _ _ => A d, fun _ => False, fun _ => False, fun x _ => B x⟩
def PureR (n m : Nat) (sp : Spc) (w : WS) : Prop := ∀ (ds : List PyData) (A : PyData → Prop) (B : XC → Prop) (a c : Addr), ds.length = m → sp ds A B →
  w (.rng a c :: startS n ds) ⟨fun S => S[0]? = some (.rng a c) ∧ A .none, fun d _ S => S[0]? = some (.rng a c) ∧ A d, fun _ => False, fun _ => False, fun x S => S[0]? = some (.rng a c) ∧ B x⟩
/-! ### what the defs of steps.py promise -/
def isInt : PyData → Bool
  | .int _ => true
  | _ => false
def sp_is_integer : Spc := fun ds A _ => ∃ d, ds = [d] ∧ typD d ≠ "dict" ∧ A (.bool (isInt d))
theorem sp_is_integer_eq {d : PyData} {A : PyData → Prop} {B : XC → Prop} : sp_is_integer [d] A B ↔ typD d ≠ "dict" ∧ A (.bool (isInt d)) :=
  ⟨fun ⟨_, h, h1, h2⟩ => by cases h; exact ⟨h1, h2⟩, fun ⟨h1, h2⟩ => ⟨_, rfl, h1, h2⟩⟩

def w_is_integer : WS :=
    (wRet (wAnd (wIsi "int" (wV 0)) (wNot (wIsi "bool" (wV 0)))))
theorem pure_is_integer : Pure 1 1 sp_is_integer w_is_integer := by
  rintro ds A B - ⟨d, rfl, h1, h2⟩
  cases d <;> simp_all [w_is_integer, startS, bl?, g2, gAdd, gDiv, gEq, gGe, gGt, gI, gIn, gInt, gIs, gIsNot, gLe, gLen, gList, gLt, gMM, gMod, gMul, gMulS, gNe, gNotIn, gPow, gSorted, gSub, gIadd, gSum, gTuple, puts, sV, sVs, slotM, wAnd, wApp, wAsg, wAug, wAugI, wB, wC, wCall, wCallR, wChain, wCons, wDraw, wDrop, wEnL, wEnT, wExt, wFn, wFnO, wFor, wGCons, wGNil, wGT, wIL, wIT, wIdx, wIf, wIfS, wIsi, wIx, wLc, wLst, wMNil, wMO, wMV, wMix, wN, wNeg, wNil, wNot, wNotT, wO, wOp, wOr, wOwn, wPar, wR1, wR2, wRaise, wRaiseF, wRet, wSeq, wSet, wSetI, wSkip, wTAnd, wTNot, wTOr, wTru, wTry, wTryF, wTup, wV, wYes, wSplit, wJoin, wRstrip, wFmt, wJNil, wJCons, wJs, gStr, gIntS, wIS, gSignNotIn, wSl, wSlt, wPn, wPs, gMulT, wGL, wTryAs, wXf, wXis, wCat, wCatV, wIxV, wDGet, wDIn, wDInT, wDGet2, wDPut, wDisp1, wOwnD, wMD, wForD, wLcD, wFz, wMv, wMinD, gListD, fzS, wDK, wDT, wFldO, wFldS, wMeth, wProp, wLenO, wCallO, wMake, wNewOb, wNewObL, wMethC, gLenD, wDGetV, wPopS, wUpd, wLV, wLI, wForIt, wSortSet, wCallIx, gSortedT, wTabIx, wTree, wForChg, messSlot, wSortLam, wAsgO, typD, isTb, isInt]
def inR (d : PyData) (lo hi : Int) : Bool := match d with
  | .int i => decide (lo ≤ i) && decide (i ≤ hi)
  | _ => false
def sp_is_from : Spc := fun ds A _ => ∃ d lo hi, ds = [d, .int lo, .int hi] ∧ typD d ≠ "dict" ∧ A (.bool (inR d lo hi))
theorem sp_is_from_eq {d : PyData} {lo hi : Int} {A : PyData → Prop} {B : XC → Prop} : sp_is_from [d, .int lo, .int hi] A B ↔ typD d ≠ "dict" ∧ A (.bool (inR d lo hi)) :=
  ⟨fun ⟨_, _, _, h, h1, h2⟩ => by cases h; exact ⟨h1, h2⟩, fun ⟨h1, h2⟩ => ⟨_, _, _, rfl, h1, h2⟩⟩

def w_is_from : WS :=
    (wRet (wAnd (wCall sp_is_integer (wCons (wV 0) wNil)) (wChain gLe gLe (wV 1) (wV 0) (wV 2))))
theorem pure_is_from : Pure 3 3 sp_is_from w_is_from := by
  rintro ds A B - ⟨d, lo, hi, rfl, h1, h2⟩
  cases d <;> simp_all [w_is_from, startS, bl?, g2, gAdd, gDiv, gEq, gGe, gGt, gI, gIn, gInt, gIs, gIsNot, gLe, gLen, gList, gLt, gMM, gMod, gMul, gMulS, gNe, gNotIn, gPow, gSorted, gSub, gIadd, gSum, gTuple, puts, sV, sVs, slotM, wAnd, wApp, wAsg, wAug, wAugI, wB, wC, wCall, wCallR, wChain, wCons, wDraw, wDrop, wEnL, wEnT, wExt, wFn, wFnO, wFor, wGCons, wGNil, wGT, wIL, wIT, wIdx, wIf, wIfS, wIsi, wIx, wLc, wLst, wMNil, wMO, wMV, wMix, wN, wNeg, wNil, wNot, wNotT, wO, wOp, wOr, wOwn, wPar, wR1, wR2, wRaise, wRaiseF, wRet, wSeq, wSet, wSetI, wSkip, wTAnd, wTNot, wTOr, wTru, wTry, wTryF, wTup, wV, wYes, wSplit, wJoin, wRstrip, wFmt, wJNil, wJCons, wJs, gStr, gIntS, wIS, gSignNotIn, wSl, wSlt, wPn, wPs, gMulT, wGL, wTryAs, wXf, wXis, wCat, wCatV, wIxV, wDGet, wDIn, wDInT, wDGet2, wDPut, wDisp1, wOwnD, wMD, wForD, wLcD, wFz, wMv, wMinD, gListD, fzS, wDK, wDT, wFldO, wFldS, wMeth, wProp, wLenO, wCallO, wMake, wNewOb, wNewObL, wMethC, gLenD, wDGetV, wPopS, wUpd, wLV, wLI, wForIt, wSortSet, wCallIx, gSortedT, wTabIx, wTree, wForChg, messSlot, wSortLam, wAsgO, sp_is_integer, typD, isInt, inR]
  rename_i i
  by_cases c1 : lo ≤ i
  · simpa [c1] using h2
  · simpa [c1] using h2
/-- the items of a tuple are no dicts -/
def plainD (d : PyData) : Prop := typD d ≠ "dict" ∧ ∀ xs, d = .tuple xs → ∀ x ∈ xs, typD x ≠ "dict"
abbrev big : Int := 1000000000000000000000000000000
def isHeapsD : PyData → Bool
  | .tuple xs => decide (2 ≤ xs.length) && decide (xs.length ≤ 6) && xs.all (fun x => inR x 0 big) && xs.any (fun x => match x with
    | .int i => decide (i ≠ 0)
    | _ => false)
  | _ => false
def sp_check_heaps : Spc := fun ds A B => ∃ d, ds = [d] ∧ plainD d ∧ (isHeapsD d = true → A .none) ∧ (isHeapsD d = false → B ("BadHeaps", []))

def w_check_heaps : WS :=
    (wSeq (wIfS (wTOr (wTNot (wB (wIsi "tuple" (wV 0)))) (wTNot (wB (wChain gLe gLe (wC (.int 2)) (wFn gLen (wCons (wV 0) wNil)) (wC (.int 6)))))) (wRaise "BadHeaps") wSkip)
    (wSeq (wFor (wIT (wV 0)) (wN 1) (wIfS (wTNot (wB (wCall sp_is_from (wCons (wV 1) (wCons (wC (.int 0)) (wCons (wC (.int 1000000000000000000000000000000)) wNil)))))) (wRaise "BadHeaps") wSkip))
    (wIfS (wB (wOp gEq (wFn (gMM max) (wCons (wV 0) wNil)) (wC (.int 0)))) (wRaise "BadHeaps") wSkip)))
theorem all_ints : ∀ {xs : List PyData}, xs.all (fun x => inR x 0 big) = true → ∃ ns : List Int, xs = ns.map .int ∧ ∀ n ∈ ns, 0 ≤ n ∧ n ≤ big
  | [], _ => ⟨[], rfl, fun n h => by cases h⟩
  | x :: r, h => by
    rw [List.all_cons, Bool.and_eq_true] at h
    obtain ⟨ns, rfl, hn⟩ := all_ints h.2
    cases x with
    | int i =>
      have h1 := h.1
      simp only [inR, Bool.and_eq_true, decide_eq_true_eq] at h1
      exact ⟨i :: ns, rfl, fun n hm => by
        rcases List.mem_cons.mp hm with z | z
        · rw [z]; exact h1
        · exact hn n z⟩
    | _ => exact absurd h.1 (by simp [inR])
theorem fold_max_ge : ∀ (ns : List Int) (n : Int), n ≤ ns.foldl max n ∧ ∀ x ∈ ns, x ≤ ns.foldl max n
  | [], n => ⟨Int.le_refl _, fun x h => by cases h⟩
  | y :: r, n => by
    obtain ⟨h1, h2⟩ := fold_max_ge r (max n y)
    refine ⟨Int.le_trans (Int.le_max_left n y) h1, fun x h => ?_⟩
    rcases List.mem_cons.mp h with z | z
    · rw [z]; exact Int.le_trans (Int.le_max_right n y) h1
    · exact h2 x z
theorem fold_max_in : ∀ (ns : List Int) (n : Int), ns.foldl max n = n ∨ ns.foldl max n ∈ ns
  | [], n => .inl rfl
  | y :: r, n => by
    rcases fold_max_in r (max n y) with h | h
    · show r.foldl max (max n y) = n ∨ r.foldl max (max n y) ∈ y :: r
      rw [h]
      by_cases c : n ≤ y
      · right; rw [Int.max_eq_right c]; exact List.mem_cons_self
      · left; exact Int.max_eq_left (by omega)
    · right; exact List.mem_cons_of_mem _ h
theorem any_ints (ns : List Int) : ((ns.map PyData.int).any fun x => match x with
    | .int i => decide (i ≠ 0)
    | _ => false) = ns.any fun i => decide (i ≠ 0) := by
  rw [List.any_map]
  rfl
theorem pure_check_heaps : Pure 2 1 sp_check_heaps w_check_heaps := by
  rintro ds A B - ⟨d, rfl, ⟨hp, hq⟩, h1, h2⟩
  cases d with
  | tuple xs =>
    simp only [w_check_heaps, startS, bl?, g2, gAdd, gDiv, gEq, gGe, gGt, gI, gIn, gInt, gIs, gIsNot, gLe, gLen, gList, gLt, gMM, gMod, gMul, gMulS, gNe, gNotIn, gPow, gSorted, gSub, gIadd, gSum, gTuple, puts, sV, sVs, slotM, wAnd, wApp, wAsg, wAug, wAugI, wB, wC, wCall, wCallR, wChain, wCons, wDraw, wDrop, wEnL, wEnT, wExt, wFn, wFnO, wFor, wGCons, wGNil, wGT, wIL, wIT, wIdx, wIf, wIfS, wIsi, wIx, wLc, wLst, wMNil, wMO, wMV, wMix, wN, wNeg, wNil, wNot, wNotT, wO, wOp, wOr, wOwn, wPar, wR1, wR2, wRaise, wRaiseF, wRet, wSeq, wSet, wSetI, wSkip, wTAnd, wTNot, wTOr, wTru, wTry, wTryF, wTup, wV, wYes, wSplit, wJoin, wRstrip, wFmt, wJNil, wJCons, wJs, gStr, gIntS, wIS, gSignNotIn, wSl, wSlt, wPn, wPs, gMulT, wGL, wTryAs, wXf, wXis, wCat, wCatV, wIxV, wDGet, wDIn, wDInT, wDGet2, wDPut, wDisp1, wOwnD, wMD, wForD, wLcD, wFz, wMv, wMinD, gListD, fzS, wDK, wDT, wFldO, wFldS, wMeth, wProp, wLenO, wCallO, wMake, wNewOb, wNewObL, wMethC, gLenD, wDGetV, wPopS, wUpd, wLV, wLI, wForIt, wSortSet, wCallIx, gSortedT, wTabIx, wTree, wForChg, messSlot, wSortLam, wAsgO, typD, isTb]
    simp
    by_cases c1 : 2 ≤ xs.length
    · by_cases c2 : xs.length ≤ 6
      · rw [if_pos (by omega), if_neg (by omega)]
        cases hall : xs.all (fun x => inR x 0 big) with
        | true =>
          obtain ⟨ns, rfl, hn⟩ := all_ints hall
          refine for_inv (fun r S => (∃ s, S = [.im (.tuple (ns.map .int)), s]) ∧ ∀ x ∈ r, x ∈ ns.map PyData.int) _ _ (fun d r S ⟨⟨s, es⟩, hr⟩ Nx hN => ?_) ⟨⟨_, rfl⟩, fun x h => h⟩ fun S ⟨⟨s, es⟩, _⟩ => ?_
          · subst es
            obtain ⟨n, hm, rfl⟩ := List.mem_map.mp (hr _ List.mem_cons_self)
            obtain ⟨b1, b2⟩ := hn n hm
            have hi : inR (.int n) 0 big = true := by simp only [inR, decide_eq_true b1, decide_eq_true b2]; rfl
            simp only [bl?, g2, gAdd, gDiv, gEq, gGe, gGt, gI, gIn, gInt, gIs, gIsNot, gLe, gLen, gList, gLt, gMM, gMod, gMul, gMulS, gNe, gNotIn, gPow, gSorted, gSub, gIadd, gSum, gTuple, puts, sV, sVs, slotM, wAnd, wApp, wAsg, wAug, wAugI, wB, wC, wCall, wCallR, wChain, wCons, wDraw, wDrop, wEnL, wEnT, wExt, wFn, wFnO, wFor, wGCons, wGNil, wGT, wIL, wIT, wIdx, wIf, wIfS, wIsi, wIx, wLc, wLst, wMNil, wMO, wMV, wMix, wN, wNeg, wNil, wNot, wNotT, wO, wOp, wOr, wOwn, wPar, wR1, wR2, wRaise, wRaiseF, wRet, wSeq, wSet, wSetI, wSkip, wTAnd, wTNot, wTOr, wTru, wTry, wTryF, wTup, wV, wYes, wSplit, wJoin, wRstrip, wFmt, wJNil, wJCons, wJs, gStr, gIntS, wIS, gSignNotIn, wSl, wSlt, wPn, wPs, gMulT, wGL, wTryAs, wXf, wXis, wCat, wCatV, wIxV, wDGet, wDIn, wDInT, wDGet2, wDPut, wDisp1, wOwnD, wMD, wForD, wLcD, wFz, wMv, wMinD, gListD, fzS, wDK, wDT, wFldO, wFldS, wMeth, wProp, wLenO, wCallO, wMake, wNewOb, wNewObL, wMethC, gLenD, wDGetV, wPopS, wUpd, wLV, wLI, wForIt, wSortSet, wCallIx, gSortedT, wTabIx, wTree, wForChg, messSlot, wSortLam, wAsgO, sp_is_from_eq]
            simp [typD, hi, flat]
            exact hN _ ⟨⟨_, rfl⟩, fun x hx => hr x (List.mem_cons_of_mem _ hx)⟩
          · subst es
            cases ns with
            | nil => simp at c1
            | cons n ns =>
              obtain ⟨g1, g2⟩ := fold_max_ge ns n
              have hz : ∀ x ∈ n :: ns, x ≤ ns.foldl max n := fun x hx => by
                rcases List.mem_cons.mp hx with z | z
                · rw [z]; exact g1
                · exact g2 x z
              simp
              refine ⟨n, ns, ints?_map (n :: ns), shaped_int _, shaped_int _, ?_⟩
              rw [eqv_int]
              have lx : (decide (2 ≤ ((n :: ns).map PyData.int).length) && decide (((n :: ns).map PyData.int).length ≤ 6)) = true := by
                rw [decide_eq_true c1, decide_eq_true c2]; rfl
              by_cases c3 : ns.foldl max n = 0
              · rw [if_pos (decide_eq_true c3)]
                refine h2 ?_
                simp only [isHeapsD]
                rw [lx, hall, any_ints]
                simp only [Bool.true_and]
                rw [List.any_eq_false]
                intro x hx
                have q1 := hz x hx
                have q2 := (hn x hx).1
                simp
                omega
              · rw [if_neg (by simpa using c3)]
                refine h1 ?_
                simp only [isHeapsD]
                rw [lx, hall, any_ints]
                simp only [Bool.true_and]
                rw [List.any_eq_true]
                refine ⟨ns.foldl max n, ?_, by simpa using c3⟩
                rcases fold_max_in ns n with q | q
                · rw [q]; exact List.mem_cons_self
                · exact List.mem_cons_of_mem _ q
        | false =>
          have hB := h2 (by simp only [isHeapsD]; rw [hall]; simp)
          refine for_inv (fun r S => (∃ s, S = [.im (.tuple xs), s]) ∧ (∀ x ∈ r, x ∈ xs) ∧ r.all (fun x => inR x 0 big) = false) _ _ (fun d r S ⟨⟨s, es⟩, hr, ha⟩ Nx hN => ?_) ⟨⟨_, rfl⟩, fun x h => h, hall⟩ fun S ⟨_, _, z⟩ => by cases z
          subst es
          have hd := hq xs rfl d (hr _ List.mem_cons_self)
          simp only [bl?, g2, gAdd, gDiv, gEq, gGe, gGt, gI, gIn, gInt, gIs, gIsNot, gLe, gLen, gList, gLt, gMM, gMod, gMul, gMulS, gNe, gNotIn, gPow, gSorted, gSub, gIadd, gSum, gTuple, puts, sV, sVs, slotM, wAnd, wApp, wAsg, wAug, wAugI, wB, wC, wCall, wCallR, wChain, wCons, wDraw, wDrop, wEnL, wEnT, wExt, wFn, wFnO, wFor, wGCons, wGNil, wGT, wIL, wIT, wIdx, wIf, wIfS, wIsi, wIx, wLc, wLst, wMNil, wMO, wMV, wMix, wN, wNeg, wNil, wNot, wNotT, wO, wOp, wOr, wOwn, wPar, wR1, wR2, wRaise, wRaiseF, wRet, wSeq, wSet, wSetI, wSkip, wTAnd, wTNot, wTOr, wTru, wTry, wTryF, wTup, wV, wYes, wSplit, wJoin, wRstrip, wFmt, wJNil, wJCons, wJs, gStr, gIntS, wIS, gSignNotIn, wSl, wSlt, wPn, wPs, gMulT, wGL, wTryAs, wXf, wXis, wCat, wCatV, wIxV, wDGet, wDIn, wDInT, wDGet2, wDPut, wDisp1, wOwnD, wMD, wForD, wLcD, wFz, wMv, wMinD, gListD, fzS, wDK, wDT, wFldO, wFldS, wMeth, wProp, wLenO, wCallO, wMake, wNewOb, wNewObL, wMethC, gLenD, wDGetV, wPopS, wUpd, wLV, wLI, wForIt, wSortSet, wCallIx, gSortedT, wTabIx, wTree, wForChg, messSlot, wSortLam, wAsgO, sp_is_from_eq]
          cases hi : inR d 0 big with
          | true =>
            simp [hd, hi]
            refine hN _ ⟨⟨_, rfl⟩, fun x hx => hr x (List.mem_cons_of_mem _ hx), ?_⟩
            rw [List.all_cons, hi] at ha
            exact ha
          | false =>
            simp [hd, hi]
            exact hB
      · rw [if_pos (by omega), if_pos (by omega)]
        exact h2 (by simp only [isHeapsD, decide_eq_false c2]; simp)
    · rw [if_neg (by omega)]
      exact h2 (by simp only [isHeapsD, decide_eq_false c1]; simp)
  | _ => simp_all [w_check_heaps, startS, bl?, g2, gAdd, gDiv, gEq, gGe, gGt, gI, gIn, gInt, gIs, gIsNot, gLe, gLen, gList, gLt, gMM, gMod, gMul, gMulS, gNe, gNotIn, gPow, gSorted, gSub, gIadd, gSum, gTuple, puts, sV, sVs, slotM, wAnd, wApp, wAsg, wAug, wAugI, wB, wC, wCall, wCallR, wChain, wCons, wDraw, wDrop, wEnL, wEnT, wExt, wFn, wFnO, wFor, wGCons, wGNil, wGT, wIL, wIT, wIdx, wIf, wIfS, wIsi, wIx, wLc, wLst, wMNil, wMO, wMV, wMix, wN, wNeg, wNil, wNot, wNotT, wO, wOp, wOr, wOwn, wPar, wR1, wR2, wRaise, wRaiseF, wRet, wSeq, wSet, wSetI, wSkip, wTAnd, wTNot, wTOr, wTru, wTry, wTryF, wTup, wV, wYes, wSplit, wJoin, wRstrip, wFmt, wJNil, wJCons, wJs, gStr, gIntS, wIS, gSignNotIn, wSl, wSlt, wPn, wPs, gMulT, wGL, wTryAs, wXf, wXis, wCat, wCatV, wIxV, wDGet, wDIn, wDInT, wDGet2, wDPut, wDisp1, wOwnD, wMD, wForD, wLcD, wFz, wMv, wMinD, gListD, fzS, wDK, wDT, wFldO, wFldS, wMeth, wProp, wLenO, wCallO, wMake, wNewOb, wNewObL, wMethC, gLenD, wDGetV, wPopS, wUpd, wLV, wLI, wForIt, wSortSet, wCallIx, gSortedT, wTabIx, wTree, wForChg, messSlot, wSortLam, wAsgO, typD, isTb, isHeapsD]

/-! heaps as lists -/
structure OkH (h : List Int) : Prop where
  l2 : 2 ≤ h.length
  l6 : h.length ≤ 6
  rg : ∀ x ∈ h, 0 ≤ x ∧ x ≤ big
  nz : ∃ x ∈ h, x ≠ 0
theorem typ_eH (h : List Int) : typD (eH h) ≠ "dict" := by simp [eH, typD]
theorem plain_eH (h : List Int) : plainD (eH h) := ⟨typ_eH h, fun xs e x hx => by
  have e' : h.map PyData.int = xs := by simpa [eH] using e
  rw [← e'] at hx
  obtain ⟨i, _, rfl⟩ := List.mem_map.mp hx
  simp [typD]⟩
theorem heaps_ok {h : List Int} (o : OkH h) : isHeapsD (eH h) = true := by
  simp only [isHeapsD, eH, List.length_map, decide_eq_true o.l2, decide_eq_true o.l6, any_ints, Bool.and_true, Bool.true_and]
  rw [Bool.and_eq_true, List.all_eq_true, List.any_eq_true]
  refine ⟨fun x hx => ?_, ?_⟩
  · obtain ⟨i, hi, rfl⟩ := List.mem_map.mp hx
    obtain ⟨b1, b2⟩ := o.rg i hi
    simp only [inR, decide_eq_true b1, decide_eq_true b2]
    rfl
  · obtain ⟨x, hx, hn⟩ := o.nz
    exact ⟨x, hx, decide_eq_true hn⟩
theorem check_ok {h : List Int} (o : OkH h) {A : PyData → Prop} {B : XC → Prop} (hA : A .none) : sp_check_heaps [eH h] A B :=
  ⟨_, rfl, plain_eH h, fun _ => hA, fun z => by rw [heaps_ok o] at z; cases z⟩
/-- a step in range -/
def okS (n : Nat) (s : Nat × Nat) : Prop := s.1 < n ∧ s.2 < n ∧ s.1 ≠ s.2
def isStepD (d : PyData) (n : Int) : Bool := match d with
  | .tuple [x, y] => inR x 0 (n - 1) && inR y 0 (n - 1) && (match x, y with
    | .int i, .int j => decide (i ≠ j)
    | _, _ => false)
  | _ => false
theorem typ_tup {xs : List PyData} : typD (.tuple xs) = "tuple" := rfl
theorem isT_tt : isTb "tuple" "tuple" = true := by decide
def sp_is_step : Spc := fun ds A _ => ∃ d n, ds = [d, .int n] ∧ plainD d ∧ A (.bool (isStepD d n))
theorem sp_is_step_eq {d : PyData} {n : Int} {A : PyData → Prop} {B : XC → Prop} : sp_is_step [d, .int n] A B ↔ plainD d ∧ A (.bool (isStepD d n)) :=
  ⟨fun ⟨_, _, h, h1, h2⟩ => by cases h; exact ⟨h1, h2⟩, fun ⟨h1, h2⟩ => ⟨_, _, rfl, h1, h2⟩⟩

def w_is_step : WS :=
    (wSeq (wIfS (wTOr (wTNot (wB (wIsi "tuple" (wV 0)))) (wB (wOp gNe (wFn gLen (wCons (wV 0) wNil)) (wC (.int 2))))) (wRet (wC (.bool false))) wSkip)
    (wSeq (wIfS (wTOr (wTNot (wB (wCall sp_is_from (wCons (wIx (wV 0) (wC (.int 0))) (wCons (wC (.int 0)) (wCons (wOp gSub (wV 1) (wC (.int 1))) wNil)))))) (wTNot (wB (wCall sp_is_from (wCons (wIx (wV 0) (wC (.int 1))) (wCons (wC (.int 0)) (wCons (wOp gSub (wV 1) (wC (.int 1))) wNil))))))) (wRet (wC (.bool false))) wSkip)
    (wRet (wOp gNe (wIx (wV 0) (wC (.int 0))) (wIx (wV 0) (wC (.int 1)))))))
theorem pure_is_step : Pure 2 2 sp_is_step w_is_step := by
  rintro ds A B - ⟨d, n, rfl, ⟨hp, hq⟩, h⟩
  cases d with
  | tuple xs =>
    have hq := hq xs rfl
    simp only [w_is_step, bl?, g2, gAdd, gDiv, gEq, gGe, gGt, gI, gIn, gInt, gIs, gIsNot, gLe, gLen, gList, gLt, gMM, gMod, gMul, gMulS, gNe, gNotIn, gPow, gSorted, gSub, gIadd, gSum, gTuple, puts, sV, sVs, slotM, wAnd, wApp, wAsg, wAug, wAugI, wB, wC, wCall, wCallR, wChain, wCons, wDraw, wDrop, wEnL, wEnT, wExt, wFn, wFnO, wFor, wGCons, wGNil, wGT, wIL, wIT, wIdx, wIf, wIfS, wIsi, wIx, wLc, wLst, wMNil, wMO, wMV, wMix, wN, wNeg, wNil, wNot, wNotT, wO, wOp, wOr, wOwn, wPar, wR1, wR2, wRaise, wRaiseF, wRet, wSeq, wSet, wSetI, wSkip, wTAnd, wTNot, wTOr, wTru, wTry, wTryF, wTup, wV, wYes, wSplit, wJoin, wRstrip, wFmt, wJNil, wJCons, wJs, gStr, gIntS, wIS, gSignNotIn, wSl, wSlt, wPn, wPs, gMulT, wGL, wTryAs, wXf, wXis, wCat, wCatV, wIxV, wDGet, wDIn, wDInT, wDGet2, wDPut, wDisp1, wOwnD, wMD, wForD, wLcD, wFz, wMv, wMinD, gListD, fzS, wDK, wDT, wFldO, wFldS, wMeth, wProp, wLenO, wCallO, wMake, wNewOb, wNewObL, wMethC, gLenD, wDGetV, wPopS, wUpd, wLV, wLI, wForIt, wSortSet, wCallIx, gSortedT, wTabIx, wTree, wForChg, messSlot, wSortLam, wAsgO, startS, List.length_cons, List.length_nil, List.map_cons, List.map_nil, List.getElem?_cons_zero, List.getElem?_cons_succ, List.set_cons_zero, List.set_cons_succ, List.cons_append, List.nil_append, List.append_nil, List.replicate_succ, List.replicate_zero, Nat.reduceAdd, Nat.reduceSub, ↓reduceIte, Bool.false_eq_true, reduceCtorEq, true_and, and_true, true_or, or_true, false_or, or_false, Bool.not_true, Bool.not_false, Bool.true_and, Bool.false_and, Bool.and_true, decide_eq_true_eq, Bool.not_eq_eq_eq_not, exists_eq_left, exists_eq_left', Option.some.injEq, typ_tup, isT_tt, sp_is_from_eq]
    match xs, hq with
    | [], _ => simpa [shaped_int, eqv_int, isStepD] using h
    | [x], _ => simpa [shaped_int, eqv_int, isStepD] using h
    | [x, y], hq =>
      have hx := hq x (by simp)
      have hy := hq y (by simp)
      simp [shaped_int, eqv_int, atD, ixN, hx, hy]
      simp only [isStepD] at h
      cases c1 : inR x 0 (n - 1) with
      | false => rw [c1] at h; simpa using h
      | true =>
        cases c2 : inR y 0 (n - 1) with
        | false => rw [c1, c2] at h; simpa using h
        | true =>
          rw [c1, c2] at h
          cases x <;> simp [inR] at c1
          cases y <;> simp [inR] at c2
          simpa [shaped_int, eqv_int] using h
    | x :: y :: z :: r, _ =>
      have e : ¬ ((r.length : Int) + 1 + 1 + 1 = 2) := by omega
      simpa [shaped_int, eqv_int, isStepD, e] using h
  | _ => simp_all [w_is_step, startS, bl?, g2, gAdd, gDiv, gEq, gGe, gGt, gI, gIn, gInt, gIs, gIsNot, gLe, gLen, gList, gLt, gMM, gMod, gMul, gMulS, gNe, gNotIn, gPow, gSorted, gSub, gIadd, gSum, gTuple, puts, sV, sVs, slotM, wAnd, wApp, wAsg, wAug, wAugI, wB, wC, wCall, wCallR, wChain, wCons, wDraw, wDrop, wEnL, wEnT, wExt, wFn, wFnO, wFor, wGCons, wGNil, wGT, wIL, wIT, wIdx, wIf, wIfS, wIsi, wIx, wLc, wLst, wMNil, wMO, wMV, wMix, wN, wNeg, wNil, wNot, wNotT, wO, wOp, wOr, wOwn, wPar, wR1, wR2, wRaise, wRaiseF, wRet, wSeq, wSet, wSetI, wSkip, wTAnd, wTNot, wTOr, wTru, wTry, wTryF, wTup, wV, wYes, wSplit, wJoin, wRstrip, wFmt, wJNil, wJCons, wJs, gStr, gIntS, wIS, gSignNotIn, wSl, wSlt, wPn, wPs, gMulT, wGL, wTryAs, wXf, wXis, wCat, wCatV, wIxV, wDGet, wDIn, wDInT, wDGet2, wDPut, wDisp1, wOwnD, wMD, wForD, wLcD, wFz, wMv, wMinD, gListD, fzS, wDK, wDT, wFldO, wFldS, wMeth, wProp, wLenO, wCallO, wMake, wNewOb, wNewObL, wMethC, gLenD, wDGetV, wPopS, wUpd, wLV, wLI, wForIt, wSortSet, wCallIx, gSortedT, wTabIx, wTree, wForChg, messSlot, wSortLam, wAsgO, typD, isTb, isStepD]
theorem plain_eP (s : Nat × Nat) : plainD (eP s) := ⟨by simp [eP, typD], fun xs e x hx => by
  have e' : [PyData.int (s.1 : Int), .int (s.2 : Int)] = xs := by simpa [eP] using e
  rw [← e'] at hx
  simp at hx
  rcases hx with z | z <;> (rw [z]; simp [typD])⟩
theorem isStep_eP (s : Nat × Nat) (n : Nat) : isStepD (eP s) n = (decide (s.1 < n) && decide (s.2 < n) && decide (s.1 ≠ s.2)) := by
  unfold isStepD eP inR
  by_cases c1 : s.1 < n
  · by_cases c2 : s.2 < n
    · by_cases c3 : s.1 = s.2
      · have : (s.1 : Int) = s.2 := by omega
        simp [c1, c2, c3]
      · have : ¬ (s.1 : Int) = s.2 := by omega
        have q1 : (s.1 : Int) ≤ n - 1 := by omega
        have q2 : (s.2 : Int) ≤ n - 1 := by omega
        simp [c1, c2, c3, this, q1, q2]
    · have q2 : ¬ (s.2 : Int) ≤ n - 1 := by omega
      simp [c1, c2, q2]
  · have q2 : ¬ (s.1 : Int) ≤ n - 1 := by omega
    simp [c1, q2]
/-- can a step be made; the heaps behind it -/
def gt (h : List Int) (i : Nat) : Int := h.getD i 0
theorem at_gt {h : List Int} {i : Nat} (hi : i < h.length) : atD (h.map PyData.int) (i : Int) = some (.int (gt h i)) := atD_int hi
def can (h : List Int) (s : Nat × Nat) : Bool := decide (0 < gt h s.2) && decide (gt h s.2 ≤ gt h s.1)
def beh (h : List Int) (s : Nat × Nat) : List Int :=
  (h.set s.1 (gt h s.1 - gt h s.2)).set s.2 (gt (h.set s.1 (gt h s.1 - gt h s.2)) s.2 + gt h s.2)
def sp_can_be_made : Spc := fun ds A _ => ∃ h s, ds = [eH h, eP s] ∧ s.1 < h.length ∧ s.2 < h.length ∧ A (.bool (can h s))

def w_can_be_made : WS :=
    (wSeq (wAsg (wV 1) (wGT 2 (wGCons (wN 2) (wGCons (wN 3) wGNil))))
    (wRet (wChain gLt gLe (wC (.int 0)) (wIx (wV 0) (wV 3)) (wIx (wV 0) (wV 2)))))
theorem flat_int (i : Int) : flat (.int i) = true := rfl
theorem if_dec {c : Prop} [Decidable c] {A : Bool → Prop} {b : Bool} (h : A (decide c && b)) : if c then A b else A false := by
  by_cases k : c
  · rw [if_pos k]; rw [decide_eq_true k] at h; exact h
  · rw [if_neg k]; rw [decide_eq_false k] at h; exact h
theorem pure_can_be_made : Pure 4 2 sp_can_be_made w_can_be_made := by
  rintro ds A B - ⟨h, ⟨i, j⟩, rfl, hi, hj, hA⟩
  have hi : i < h.length := hi
  have hj : j < h.length := hj
  simp only [w_can_be_made, bl?, g2, gAdd, gDiv, gEq, gGe, gGt, gI, gIn, gInt, gIs, gIsNot, gLe, gLen, gList, gLt, gMM, gMod, gMul, gMulS, gNe, gNotIn, gPow, gSorted, gSub, gIadd, gSum, gTuple, puts, sV, sVs, slotM, wAnd, wApp, wAsg, wAug, wAugI, wB, wC, wCall, wCallR, wChain, wCons, wDraw, wDrop, wEnL, wEnT, wExt, wFn, wFnO, wFor, wGCons, wGNil, wGT, wIL, wIT, wIdx, wIf, wIfS, wIsi, wIx, wLc, wLst, wMNil, wMO, wMV, wMix, wN, wNeg, wNil, wNot, wNotT, wO, wOp, wOr, wOwn, wPar, wR1, wR2, wRaise, wRaiseF, wRet, wSeq, wSet, wSetI, wSkip, wTAnd, wTNot, wTOr, wTru, wTry, wTryF, wTup, wV, wYes, wSplit, wJoin, wRstrip, wFmt, wJNil, wJCons, wJs, gStr, gIntS, wIS, gSignNotIn, wSl, wSlt, wPn, wPs, gMulT, wGL, wTryAs, wXf, wXis, wCat, wCatV, wIxV, wDGet, wDIn, wDInT, wDGet2, wDPut, wDisp1, wOwnD, wMD, wForD, wLcD, wFz, wMv, wMinD, gListD, fzS, wDK, wDT, wFldO, wFldS, wMeth, wProp, wLenO, wCallO, wMake, wNewOb, wNewObL, wMethC, gLenD, wDGetV, wPopS, wUpd, wLV, wLI, wForIt, wSortSet, wCallIx, gSortedT, wTabIx, wTree, wForChg, messSlot, wSortLam, wAsgO, startS, List.length_cons, List.length_nil, List.map_cons, List.map_nil, List.getElem?_cons_zero, List.getElem?_cons_succ, List.set_cons_zero, List.set_cons_succ, List.cons_append, List.nil_append, List.append_nil, List.replicate_succ, List.replicate_zero, Nat.reduceAdd, Nat.reduceSub, ↓reduceIte, Bool.false_eq_true, reduceCtorEq, true_and, and_true, true_or, or_true, false_or, or_false, Bool.not_true, Bool.not_false, Bool.true_and, Bool.false_and, Bool.and_true, decide_eq_true_eq, Bool.not_eq_eq_eq_not, exists_eq_left, exists_eq_left', Option.some.injEq, eH, eP, at_gt hi, at_gt hj, flat_int]
  exact if_dec (A := fun b => A (.bool b)) hA
def sp_behind : Spc := fun ds A _ => ∃ h s, ds = [eH h, eP s] ∧ s.1 < h.length ∧ s.2 < h.length ∧ A (eH (beh h s))

def w_behind : WS :=
    (wSeq (wAsg (wV 1) (wGT 2 (wGCons (wN 2) (wGCons (wN 3) wGNil))))
    (wSeq (wOwn 4 (wFnO gList (wCons (wV 0) wNil)))
    (wSeq (wAugI 4 gSub (wV 2) (wIx (wV 0) (wV 3)))
    (wSeq (wAugI 4 gIadd (wV 3) (wIx (wV 0) (wV 3)))
    (wRet (wFn gTuple (wCons (wV 4) wNil)))))))
theorem map_set_int (h : List Int) (i : Nat) (x : Int) : (h.map PyData.int).set i (.int x) = (h.set i x).map .int := by rw [List.map_set]
theorem nat_le (i : Nat) : (0 : Int) ≤ i := Int.natCast_nonneg i
theorem pure_behind : Pure 5 2 sp_behind w_behind := by
  rintro ds A B - ⟨h, ⟨i, j⟩, rfl, hi, hj, hA⟩
  have hi : i < h.length := hi
  have hj : j < h.length := hj
  have hj' : j < (h.set i (gt h i - gt h j)).length := by rw [List.length_set]; exact hj
  simp only [w_behind, bl?, g2, gAdd, gDiv, gEq, gGe, gGt, gI, gIn, gInt, gIs, gIsNot, gLe, gLen, gList, gLt, gMM, gMod, gMul, gMulS, gNe, gNotIn, gPow, gSorted, gSub, gIadd, gSum, gTuple, puts, sV, sVs, slotM, wAnd, wApp, wAsg, wAug, wAugI, wB, wC, wCall, wCallR, wChain, wCons, wDraw, wDrop, wEnL, wEnT, wExt, wFn, wFnO, wFor, wGCons, wGNil, wGT, wIL, wIT, wIdx, wIf, wIfS, wIsi, wIx, wLc, wLst, wMNil, wMO, wMV, wMix, wN, wNeg, wNil, wNot, wNotT, wO, wOp, wOr, wOwn, wPar, wR1, wR2, wRaise, wRaiseF, wRet, wSeq, wSet, wSetI, wSkip, wTAnd, wTNot, wTOr, wTru, wTry, wTryF, wTup, wV, wYes, wSplit, wJoin, wRstrip, wFmt, wJNil, wJCons, wJs, gStr, gIntS, wIS, gSignNotIn, wSl, wSlt, wPn, wPs, gMulT, wGL, wTryAs, wXf, wXis, wCat, wCatV, wIxV, wDGet, wDIn, wDInT, wDGet2, wDPut, wDisp1, wOwnD, wMD, wForD, wLcD, wFz, wMv, wMinD, gListD, fzS, wDK, wDT, wFldO, wFldS, wMeth, wProp, wLenO, wCallO, wMake, wNewOb, wNewObL, wMethC, gLenD, wDGetV, wPopS, wUpd, wLV, wLI, wForIt, wSortSet, wCallIx, gSortedT, wTabIx, wTree, wForChg, messSlot, wSortLam, wAsgO, startS, List.length_cons, List.length_nil, List.map_cons, List.map_nil, List.getElem?_cons_zero, List.getElem?_cons_succ, List.set_cons_zero, List.set_cons_succ, List.cons_append, List.nil_append, List.append_nil, List.replicate_succ, List.replicate_zero, Nat.reduceAdd, Nat.reduceSub, ↓reduceIte, Bool.false_eq_true, reduceCtorEq, true_and, and_true, true_or, or_true, false_or, or_false, Bool.not_true, Bool.not_false, Bool.true_and, Bool.false_and, Bool.and_true, decide_eq_true_eq, Bool.not_eq_eq_eq_not, exists_eq_left, exists_eq_left', Option.some.injEq, eH, eP, at_gt hi, at_gt hj, flat_int, flat_ints, List.length_map, ixN_nat hi, map_set_int, at_gt hj', ixN_nat hj', nat_le]
  exact ⟨⟨_, rfl⟩, ⟨_, rfl⟩, hA⟩
end Pu


namespace Pu
open PySem L2
theorem at_ints {l : List Int} {i : Int} (h0 : 0 ≤ i) (h1 : i < l.length) : ∃ z, atI (l.map V.int) i = some (.int z) ∧ z ∈ l := by
  obtain ⟨j, rfl⟩ := Int.eq_ofNat_of_zero_le h0
  have hj : j < l.length := by omega
  refine ⟨l[j], ?_, List.getElem_mem hj⟩
  unfold atI ixN
  rw [List.length_map, if_pos (by omega), if_pos (by omega)]
  show (l.map V.int)[(j : Int).toNat]? = _
  rw [Int.toNat_natCast, List.getElem?_map, List.getElem?_eq_getElem hj]
  rfl
theorem fmod_in {i j : Int} (h : 1 ≤ j) : 0 ≤ i.fmod j ∧ i.fmod j < j := by
  rw [Int.fmod_eq_emod_of_nonneg i (by omega)]
  exact ⟨Int.emod_nonneg _ (by omega), Int.emod_lt_of_pos _ (by omega)⟩
def eO : Option Nat → PyData
  | none => .none
  | some k => .int (k : Int)
theorem flat_eO (o : Option Nat) : flat (eO o) = true := by cases o <;> rfl
def eL (p : List (Nat × Nat)) : PyData := .tuple (p.map eP)
theorem flats_eP (p : List (Nat × Nat)) : flats (p.map eP) = true := flats_map flat_eP p
def goneF : List Int → List (Nat × Nat) → Nat → List Int × Option Nat
  | h, [], _ => (h, none)
  | h, s :: r, k => if can h s = true then goneF (beh h s) r (k + 1) else (h, some k)
theorem beh_len (h : List Int) (s : Nat × Nat) : (beh h s).length = h.length := by unfold beh; rw [List.length_set, List.length_set]
def InP (n : Nat) (p : List (Nat × Nat)) : Prop := ∀ s ∈ p, s.1 < n ∧ s.2 < n
def OkP (n : Nat) (p : List (Nat × Nat)) : Prop := ∀ s ∈ p, okS n s
theorem OkP.inP {n : Nat} {p : List (Nat × Nat)} (h : OkP n p) : InP n p := fun s hs => ⟨(h s hs).1, (h s hs).2.1⟩
theorem can_use {h : List Int} {s : Nat × Nat} {A : PyData → Prop} {B : XC → Prop} (h1 : s.1 < h.length) (h2 : s.2 < h.length) (hA : A (.bool (can h s))) : sp_can_be_made [eH h, eP s] A B := ⟨h, s, rfl, h1, h2, hA⟩
theorem beh_use {h : List Int} {s : Nat × Nat} {A : PyData → Prop} {B : XC → Prop} (h1 : s.1 < h.length) (h2 : s.2 < h.length) (hA : A (eH (beh h s))) : sp_behind [eH h, eP s] A B := ⟨h, s, rfl, h1, h2, hA⟩
def sp_gone_through : Spc := fun ds A _ => ∃ h p, ds = [eH h, eL p] ∧ InP h.length p ∧ A (.tuple [eH (goneF h p 0).1, eO (goneF h p 0).2])

def w_gone_through : WS :=
    (wSeq (wFor (wEnT (wV 1)) (wGT 2 (wGCons (wN 2) (wGCons (wN 3) wGNil))) (wSeq (wIfS (wTNot (wB (wCall sp_can_be_made (wCons (wV 0) (wCons (wV 3) wNil))))) (wRet (wTup (wCons (wV 0) (wCons (wV 2) wNil)))) wSkip)
    (wSet 0 (wCall sp_behind (wCons (wV 0) (wCons (wV 3) wNil))))))
    (wRet (wTup (wCons (wV 0) (wCons (wC .none) wNil)))))
theorem pure_gone_through : Pure 4 2 sp_gone_through w_gone_through := by
  rintro ds A B - ⟨h, p, rfl, hp, hA⟩
  simp only [w_gone_through, bl?, g2, gAdd, gDiv, gEq, gGe, gGt, gI, gIn, gInt, gIs, gIsNot, gLe, gLen, gList, gLt, gMM, gMod, gMul, gMulS, gNe, gNotIn, gPow, gSorted, gSub, gIadd, gSum, gTuple, puts, sV, sVs, slotM, wAnd, wApp, wAsg, wAug, wAugI, wB, wC, wCall, wCallR, wChain, wCons, wDraw, wDrop, wEnL, wEnT, wExt, wFn, wFnO, wFor, wGCons, wGNil, wGT, wIL, wIT, wIdx, wIf, wIfS, wIsi, wIx, wLc, wLst, wMNil, wMO, wMV, wMix, wN, wNeg, wNil, wNot, wNotT, wO, wOp, wOr, wOwn, wPar, wR1, wR2, wRaise, wRaiseF, wRet, wSeq, wSet, wSetI, wSkip, wTAnd, wTNot, wTOr, wTru, wTry, wTryF, wTup, wV, wYes, wSplit, wJoin, wRstrip, wFmt, wJNil, wJCons, wJs, gStr, gIntS, wIS, gSignNotIn, wSl, wSlt, wPn, wPs, gMulT, wGL, wTryAs, wXf, wXis, wCat, wCatV, wIxV, wDGet, wDIn, wDInT, wDGet2, wDPut, wDisp1, wOwnD, wMD, wForD, wLcD, wFz, wMv, wMinD, gListD, fzS, wDK, wDT, wFldO, wFldS, wMeth, wProp, wLenO, wCallO, wMake, wNewOb, wNewObL, wMethC, gLenD, wDGetV, wPopS, wUpd, wLV, wLI, wForIt, wSortSet, wCallIx, gSortedT, wTabIx, wTree, wForChg, messSlot, wSortLam, wAsgO, startS, List.length_cons, List.length_nil, List.map_cons, List.map_nil, List.getElem?_cons_zero, List.getElem?_cons_succ, List.set_cons_zero, List.set_cons_succ, List.cons_append, List.nil_append, List.append_nil, List.replicate_succ, List.replicate_zero, Nat.reduceAdd, Nat.reduceSub, ↓reduceIte, Bool.false_eq_true, reduceCtorEq, true_and, and_true, true_or, or_true, false_or, or_false, Bool.not_true, Bool.not_false, Bool.true_and, Bool.false_and, Bool.and_true, decide_eq_true_eq, Bool.not_eq_eq_eq_not, exists_eq_left, exists_eq_left', Option.some.injEq, eL]
  refine for_inv (fun r S => ∃ k q g s2 s3, r = enumFr k (q.map eP) ∧ S = [.im (eH g), .im (.tuple (p.map eP)), s2, s3] ∧ InP g.length q ∧ A (.tuple [eH (goneF g q k).1, eO (goneF g q k).2])) _ _ ?_ ⟨0, p, h, _, _, rfl, rfl, hp, hA⟩ ?_
  · rintro d r S ⟨k, q, g, s2, s3, er, rfl, hq, hA⟩ Nx hN
    cases q with
    | nil => cases er
    | cons s q =>
      cases er
      have hs := hq s List.mem_cons_self
      simp only [bl?, g2, gAdd, gDiv, gEq, gGe, gGt, gI, gIn, gInt, gIs, gIsNot, gLe, gLen, gList, gLt, gMM, gMod, gMul, gMulS, gNe, gNotIn, gPow, gSorted, gSub, gIadd, gSum, gTuple, puts, sV, sVs, slotM, wAnd, wApp, wAsg, wAug, wAugI, wB, wC, wCall, wCallR, wChain, wCons, wDraw, wDrop, wEnL, wEnT, wExt, wFn, wFnO, wFor, wGCons, wGNil, wGT, wIL, wIT, wIdx, wIf, wIfS, wIsi, wIx, wLc, wLst, wMNil, wMO, wMV, wMix, wN, wNeg, wNil, wNot, wNotT, wO, wOp, wOr, wOwn, wPar, wR1, wR2, wRaise, wRaiseF, wRet, wSeq, wSet, wSetI, wSkip, wTAnd, wTNot, wTOr, wTru, wTry, wTryF, wTup, wV, wYes, wSplit, wJoin, wRstrip, wFmt, wJNil, wJCons, wJs, gStr, gIntS, wIS, gSignNotIn, wSl, wSlt, wPn, wPs, gMulT, wGL, wTryAs, wXf, wXis, wCat, wCatV, wIxV, wDGet, wDIn, wDInT, wDGet2, wDPut, wDisp1, wOwnD, wMD, wForD, wLcD, wFz, wMv, wMinD, gListD, fzS, wDK, wDT, wFldO, wFldS, wMeth, wProp, wLenO, wCallO, wMake, wNewOb, wNewObL, wMethC, gLenD, wDGetV, wPopS, wUpd, wLV, wLI, wForIt, wSortSet, wCallIx, gSortedT, wTabIx, wTree, wForChg, messSlot, wSortLam, wAsgO, startS, List.length_cons, List.length_nil, List.map_cons, List.map_nil, List.getElem?_cons_zero, List.getElem?_cons_succ, List.set_cons_zero, List.set_cons_succ, List.cons_append, List.nil_append, List.append_nil, List.replicate_succ, List.replicate_zero, Nat.reduceAdd, Nat.reduceSub, ↓reduceIte, Bool.false_eq_true, reduceCtorEq, true_and, and_true, true_or, or_true, false_or, or_false, Bool.not_true, Bool.not_false, Bool.true_and, Bool.false_and, Bool.and_true, decide_eq_true_eq, Bool.not_eq_eq_eq_not, exists_eq_left, exists_eq_left', Option.some.injEq, flat_int, flat_eP]
      refine can_use hs.1 hs.2 ?_
      by_cases c : can g s = true
      · simp only [c, bl?, g2, gAdd, gDiv, gEq, gGe, gGt, gI, gIn, gInt, gIs, gIsNot, gLe, gLen, gList, gLt, gMM, gMod, gMul, gMulS, gNe, gNotIn, gPow, gSorted, gSub, gIadd, gSum, gTuple, puts, sV, sVs, slotM, wAnd, wApp, wAsg, wAug, wAugI, wB, wC, wCall, wCallR, wChain, wCons, wDraw, wDrop, wEnL, wEnT, wExt, wFn, wFnO, wFor, wGCons, wGNil, wGT, wIL, wIT, wIdx, wIf, wIfS, wIsi, wIx, wLc, wLst, wMNil, wMO, wMV, wMix, wN, wNeg, wNil, wNot, wNotT, wO, wOp, wOr, wOwn, wPar, wR1, wR2, wRaise, wRaiseF, wRet, wSeq, wSet, wSetI, wSkip, wTAnd, wTNot, wTOr, wTru, wTry, wTryF, wTup, wV, wYes, wSplit, wJoin, wRstrip, wFmt, wJNil, wJCons, wJs, gStr, gIntS, wIS, gSignNotIn, wSl, wSlt, wPn, wPs, gMulT, wGL, wTryAs, wXf, wXis, wCat, wCatV, wIxV, wDGet, wDIn, wDInT, wDGet2, wDPut, wDisp1, wOwnD, wMD, wForD, wLcD, wFz, wMv, wMinD, gListD, fzS, wDK, wDT, wFldO, wFldS, wMeth, wProp, wLenO, wCallO, wMake, wNewOb, wNewObL, wMethC, gLenD, wDGetV, wPopS, wUpd, wLV, wLI, wForIt, wSortSet, wCallIx, gSortedT, wTabIx, wTree, wForChg, messSlot, wSortLam, wAsgO, startS, List.length_cons, List.length_nil, List.map_cons, List.map_nil, List.getElem?_cons_zero, List.getElem?_cons_succ, List.set_cons_zero, List.set_cons_succ, List.cons_append, List.nil_append, List.append_nil, List.replicate_succ, List.replicate_zero, Nat.reduceAdd, Nat.reduceSub, ↓reduceIte, Bool.false_eq_true, reduceCtorEq, true_and, and_true, true_or, or_true, false_or, or_false, Bool.not_true, Bool.not_false, Bool.true_and, Bool.false_and, Bool.and_true, decide_eq_true_eq, Bool.not_eq_eq_eq_not, exists_eq_left, exists_eq_left', Option.some.injEq]
        refine beh_use hs.1 hs.2 (hN _ ⟨k + 1, q, beh g s, _, _, rfl, rfl, fun x hx => by rw [beh_len]; exact hq x (List.mem_cons_of_mem _ hx), ?_⟩)
        have e : goneF g (s :: q) k = goneF (beh g s) q (k + 1) := by show (if can g s = true then _ else _) = _; rw [if_pos c]
        rw [e] at hA
        exact hA
      · have c' : can g s = false := by simpa using c
        have e : goneF g (s :: q) k = (g, some k) := by show (if can g s = true then _ else _) = _; rw [if_neg c]
        rw [e] at hA
        simp only [c', bl?, g2, gAdd, gDiv, gEq, gGe, gGt, gI, gIn, gInt, gIs, gIsNot, gLe, gLen, gList, gLt, gMM, gMod, gMul, gMulS, gNe, gNotIn, gPow, gSorted, gSub, gIadd, gSum, gTuple, puts, sV, sVs, slotM, wAnd, wApp, wAsg, wAug, wAugI, wB, wC, wCall, wCallR, wChain, wCons, wDraw, wDrop, wEnL, wEnT, wExt, wFn, wFnO, wFor, wGCons, wGNil, wGT, wIL, wIT, wIdx, wIf, wIfS, wIsi, wIx, wLc, wLst, wMNil, wMO, wMV, wMix, wN, wNeg, wNil, wNot, wNotT, wO, wOp, wOr, wOwn, wPar, wR1, wR2, wRaise, wRaiseF, wRet, wSeq, wSet, wSetI, wSkip, wTAnd, wTNot, wTOr, wTru, wTry, wTryF, wTup, wV, wYes, wSplit, wJoin, wRstrip, wFmt, wJNil, wJCons, wJs, gStr, gIntS, wIS, gSignNotIn, wSl, wSlt, wPn, wPs, gMulT, wGL, wTryAs, wXf, wXis, wCat, wCatV, wIxV, wDGet, wDIn, wDInT, wDGet2, wDPut, wDisp1, wOwnD, wMD, wForD, wLcD, wFz, wMv, wMinD, gListD, fzS, wDK, wDT, wFldO, wFldS, wMeth, wProp, wLenO, wCallO, wMake, wNewOb, wNewObL, wMethC, gLenD, wDGetV, wPopS, wUpd, wLV, wLI, wForIt, wSortSet, wCallIx, gSortedT, wTabIx, wTree, wForChg, messSlot, wSortLam, wAsgO, startS, List.length_cons, List.length_nil, List.map_cons, List.map_nil, List.getElem?_cons_zero, List.getElem?_cons_succ, List.set_cons_zero, List.set_cons_succ, List.cons_append, List.nil_append, List.append_nil, List.replicate_succ, List.replicate_zero, Nat.reduceAdd, Nat.reduceSub, ↓reduceIte, Bool.false_eq_true, reduceCtorEq, true_and, and_true, true_or, or_true, false_or, or_false, Bool.not_true, Bool.not_false, Bool.true_and, Bool.false_and, Bool.and_true, decide_eq_true_eq, Bool.not_eq_eq_eq_not, exists_eq_left, exists_eq_left', Option.some.injEq]
        exact ⟨by decide, hA⟩
  · rintro S ⟨k, q, g, s2, s3, er, rfl, hq, hA⟩
    cases q with
    | nil =>
      simp only [bl?, g2, gAdd, gDiv, gEq, gGe, gGt, gI, gIn, gInt, gIs, gIsNot, gLe, gLen, gList, gLt, gMM, gMod, gMul, gMulS, gNe, gNotIn, gPow, gSorted, gSub, gIadd, gSum, gTuple, puts, sV, sVs, slotM, wAnd, wApp, wAsg, wAug, wAugI, wB, wC, wCall, wCallR, wChain, wCons, wDraw, wDrop, wEnL, wEnT, wExt, wFn, wFnO, wFor, wGCons, wGNil, wGT, wIL, wIT, wIdx, wIf, wIfS, wIsi, wIx, wLc, wLst, wMNil, wMO, wMV, wMix, wN, wNeg, wNil, wNot, wNotT, wO, wOp, wOr, wOwn, wPar, wR1, wR2, wRaise, wRaiseF, wRet, wSeq, wSet, wSetI, wSkip, wTAnd, wTNot, wTOr, wTru, wTry, wTryF, wTup, wV, wYes, wSplit, wJoin, wRstrip, wFmt, wJNil, wJCons, wJs, gStr, gIntS, wIS, gSignNotIn, wSl, wSlt, wPn, wPs, gMulT, wGL, wTryAs, wXf, wXis, wCat, wCatV, wIxV, wDGet, wDIn, wDInT, wDGet2, wDPut, wDisp1, wOwnD, wMD, wForD, wLcD, wFz, wMv, wMinD, gListD, fzS, wDK, wDT, wFldO, wFldS, wMeth, wProp, wLenO, wCallO, wMake, wNewOb, wNewObL, wMethC, gLenD, wDGetV, wPopS, wUpd, wLV, wLI, wForIt, wSortSet, wCallIx, gSortedT, wTabIx, wTree, wForChg, messSlot, wSortLam, wAsgO, startS, List.length_cons, List.length_nil, List.map_cons, List.map_nil, List.getElem?_cons_zero, List.getElem?_cons_succ, List.set_cons_zero, List.set_cons_succ, List.cons_append, List.nil_append, List.append_nil, List.replicate_succ, List.replicate_zero, Nat.reduceAdd, Nat.reduceSub, ↓reduceIte, Bool.false_eq_true, reduceCtorEq, true_and, and_true, true_or, or_true, false_or, or_false, Bool.not_true, Bool.not_false, Bool.true_and, Bool.false_and, Bool.and_true, decide_eq_true_eq, Bool.not_eq_eq_eq_not, exists_eq_left, exists_eq_left', Option.some.injEq]
      exact ⟨by decide, hA⟩
    | cons s q => cases er
def sp_check_plan : Spc := fun ds A _ => ∃ h p, ds = [eH h, eL p] ∧ OkH h ∧ OkP h.length p ∧ p.length ≤ 20000 ∧ A .none

def w_check_plan : WS :=
    (wSeq (wDrop (wCall sp_check_heaps (wCons (wV 0) wNil)))
    (wSeq (wIfS (wTOr (wTNot (wB (wIsi "tuple" (wV 1)))) (wB (wOp gGt (wFn gLen (wCons (wV 1) wNil)) (wC (.int 20000))))) (wRaiseF "BadPlan" ["index"] (wCons (wC .none) wNil)) wSkip)
    (wFor (wEnT (wV 1)) (wGT 2 (wGCons (wN 2) (wGCons (wN 3) wGNil))) (wIfS (wTNot (wB (wCall sp_is_step (wCons (wV 3) (wCons (wFn gLen (wCons (wV 0) wNil)) wNil))))) (wRaiseF "BadPlan" ["index"] (wCons (wV 2) wNil)) wSkip))))
theorem len_eL (p : List (Nat × Nat)) : ((p.map eP).length : Int) = p.length := by rw [List.length_map]
theorem len_eH (h : List Int) : ((h.map PyData.int).length : Int) = h.length := by rw [List.length_map]
theorem pure_check_plan : Pure 4 2 sp_check_plan w_check_plan := by
  rintro ds A B - ⟨h, p, rfl, oh, op, hl, hA⟩
  simp only [w_check_plan, bl?, g2, gAdd, gDiv, gEq, gGe, gGt, gI, gIn, gInt, gIs, gIsNot, gLe, gLen, gList, gLt, gMM, gMod, gMul, gMulS, gNe, gNotIn, gPow, gSorted, gSub, gIadd, gSum, gTuple, puts, sV, sVs, slotM, wAnd, wApp, wAsg, wAug, wAugI, wB, wC, wCall, wCallR, wChain, wCons, wDraw, wDrop, wEnL, wEnT, wExt, wFn, wFnO, wFor, wGCons, wGNil, wGT, wIL, wIT, wIdx, wIf, wIfS, wIsi, wIx, wLc, wLst, wMNil, wMO, wMV, wMix, wN, wNeg, wNil, wNot, wNotT, wO, wOp, wOr, wOwn, wPar, wR1, wR2, wRaise, wRaiseF, wRet, wSeq, wSet, wSetI, wSkip, wTAnd, wTNot, wTOr, wTru, wTry, wTryF, wTup, wV, wYes, wSplit, wJoin, wRstrip, wFmt, wJNil, wJCons, wJs, gStr, gIntS, wIS, gSignNotIn, wSl, wSlt, wPn, wPs, gMulT, wGL, wTryAs, wXf, wXis, wCat, wCatV, wIxV, wDGet, wDIn, wDInT, wDGet2, wDPut, wDisp1, wOwnD, wMD, wForD, wLcD, wFz, wMv, wMinD, gListD, fzS, wDK, wDT, wFldO, wFldS, wMeth, wProp, wLenO, wCallO, wMake, wNewOb, wNewObL, wMethC, gLenD, wDGetV, wPopS, wUpd, wLV, wLI, wForIt, wSortSet, wCallIx, gSortedT, wTabIx, wTree, wForChg, messSlot, wSortLam, wAsgO, startS, List.length_cons, List.length_nil, List.map_cons, List.map_nil, List.getElem?_cons_zero, List.getElem?_cons_succ, List.set_cons_zero, List.set_cons_succ, List.cons_append, List.nil_append, List.append_nil, List.replicate_succ, List.replicate_zero, Nat.reduceAdd, Nat.reduceSub, ↓reduceIte, Bool.false_eq_true, reduceCtorEq, true_and, and_true, true_or, or_true, false_or, or_false, Bool.not_true, Bool.not_false, Bool.true_and, Bool.false_and, Bool.and_true, decide_eq_true_eq, Bool.not_eq_eq_eq_not, exists_eq_left, exists_eq_left', Option.some.injEq, eL]
  refine check_ok oh ?_
  have hl' : ¬ ((20000 : Int) < p.length) := by omega
  simp only [startS, List.length_cons, List.length_nil, List.map_cons, List.map_nil, List.getElem?_cons_zero, List.getElem?_cons_succ, List.set_cons_zero, List.set_cons_succ, List.cons_append, List.nil_append, List.append_nil, List.replicate_succ, List.replicate_zero, Nat.reduceAdd, Nat.reduceSub, ↓reduceIte, Bool.false_eq_true, reduceCtorEq, true_and, and_true, true_or, or_true, false_or, or_false, Bool.not_true, Bool.not_false, Bool.true_and, Bool.false_and, Bool.and_true, decide_eq_true_eq, Bool.not_eq_eq_eq_not, exists_eq_left, exists_eq_left', Option.some.injEq, typ_tup, isT_tt, bl?, g2, gAdd, gDiv, gEq, gGe, gGt, gI, gIn, gInt, gIs, gIsNot, gLe, gLen, gList, gLt, gMM, gMod, gMul, gMulS, gNe, gNotIn, gPow, gSorted, gSub, gIadd, gSum, gTuple, puts, sV, sVs, slotM, wAnd, wApp, wAsg, wAug, wAugI, wB, wC, wCall, wCallR, wChain, wCons, wDraw, wDrop, wEnL, wEnT, wExt, wFn, wFnO, wFor, wGCons, wGNil, wGT, wIL, wIT, wIdx, wIf, wIfS, wIsi, wIx, wLc, wLst, wMNil, wMO, wMV, wMix, wN, wNeg, wNil, wNot, wNotT, wO, wOp, wOr, wOwn, wPar, wR1, wR2, wRaise, wRaiseF, wRet, wSeq, wSet, wSetI, wSkip, wTAnd, wTNot, wTOr, wTru, wTry, wTryF, wTup, wV, wYes, wSplit, wJoin, wRstrip, wFmt, wJNil, wJCons, wJs, gStr, gIntS, wIS, gSignNotIn, wSl, wSlt, wPn, wPs, gMulT, wGL, wTryAs, wXf, wXis, wCat, wCatV, wIxV, wDGet, wDIn, wDInT, wDGet2, wDPut, wDisp1, wOwnD, wMD, wForD, wLcD, wFz, wMv, wMinD, gListD, fzS, wDK, wDT, wFldO, wFldS, wMeth, wProp, wLenO, wCallO, wMake, wNewOb, wNewObL, wMethC, gLenD, wDGetV, wPopS, wUpd, wLV, wLI, wForIt, wSortSet, wCallIx, gSortedT, wTabIx, wTree, wForChg, messSlot, wSortLam, wAsgO, len_eL, hl', decide_false]
  refine ⟨by decide, for_inv (fun r S => ∃ k q s2 s3, r = enumFr k (q.map eP) ∧ S = [.im (eH h), .im (.tuple (p.map eP)), s2, s3] ∧ OkP h.length q) _ _ ?_ ⟨0, p, _, _, rfl, rfl, op⟩ ?_⟩
  · rintro d r S ⟨k, q, s2, s3, er, rfl, hq⟩ Nx hN
    cases q with
    | nil => cases er
    | cons s q =>
      cases er
      have hs := hq s List.mem_cons_self
      have e : isStepD (eP s) (h.length : Int) = true := by rw [isStep_eP, decide_eq_true hs.1, decide_eq_true hs.2.1, decide_eq_true hs.2.2]; rfl
      simp only [bl?, g2, gAdd, gDiv, gEq, gGe, gGt, gI, gIn, gInt, gIs, gIsNot, gLe, gLen, gList, gLt, gMM, gMod, gMul, gMulS, gNe, gNotIn, gPow, gSorted, gSub, gIadd, gSum, gTuple, puts, sV, sVs, slotM, wAnd, wApp, wAsg, wAug, wAugI, wB, wC, wCall, wCallR, wChain, wCons, wDraw, wDrop, wEnL, wEnT, wExt, wFn, wFnO, wFor, wGCons, wGNil, wGT, wIL, wIT, wIdx, wIf, wIfS, wIsi, wIx, wLc, wLst, wMNil, wMO, wMV, wMix, wN, wNeg, wNil, wNot, wNotT, wO, wOp, wOr, wOwn, wPar, wR1, wR2, wRaise, wRaiseF, wRet, wSeq, wSet, wSetI, wSkip, wTAnd, wTNot, wTOr, wTru, wTry, wTryF, wTup, wV, wYes, wSplit, wJoin, wRstrip, wFmt, wJNil, wJCons, wJs, gStr, gIntS, wIS, gSignNotIn, wSl, wSlt, wPn, wPs, gMulT, wGL, wTryAs, wXf, wXis, wCat, wCatV, wIxV, wDGet, wDIn, wDInT, wDGet2, wDPut, wDisp1, wOwnD, wMD, wForD, wLcD, wFz, wMv, wMinD, gListD, fzS, wDK, wDT, wFldO, wFldS, wMeth, wProp, wLenO, wCallO, wMake, wNewOb, wNewObL, wMethC, gLenD, wDGetV, wPopS, wUpd, wLV, wLI, wForIt, wSortSet, wCallIx, gSortedT, wTabIx, wTree, wForChg, messSlot, wSortLam, wAsgO, startS, List.length_cons, List.length_nil, List.map_cons, List.map_nil, List.getElem?_cons_zero, List.getElem?_cons_succ, List.set_cons_zero, List.set_cons_succ, List.cons_append, List.nil_append, List.append_nil, List.replicate_succ, List.replicate_zero, Nat.reduceAdd, Nat.reduceSub, ↓reduceIte, Bool.false_eq_true, reduceCtorEq, true_and, and_true, true_or, or_true, false_or, or_false, Bool.not_true, Bool.not_false, Bool.true_and, Bool.false_and, Bool.and_true, decide_eq_true_eq, Bool.not_eq_eq_eq_not, exists_eq_left, exists_eq_left', Option.some.injEq, flat_int, flat_eP, eH, len_eH, sp_is_step_eq, e]
      exact ⟨plain_eP s, hN _ ⟨k + 1, q, _, _, rfl, rfl, fun x hx => hq x (List.mem_cons_of_mem _ hx)⟩⟩
  · rintro S ⟨k, q, s2, s3, er, rfl, hq⟩
    exact hA
def sp_judge : Spc := fun ds A _ => ∃ h p, ds = [eH h, eL p] ∧ OkH h ∧ OkP h.length p ∧ p.length ≤ 20000 ∧ A (eO (goneF h p 0).2)

def w_judge : WS :=
    (wSeq (wDrop (wCall sp_check_plan (wCons (wV 0) (wCons (wV 1) wNil))))
    (wRet (wIx (wCall sp_gone_through (wCons (wV 0) (wCons (wV 1) wNil))) (wC (.int 1)))))
theorem at_1 {x y : PyData} : atD [x, y] 1 = some y := rfl
theorem at_0 {x y : PyData} : atD [x, y] 0 = some x := rfl
theorem pure_judge : Pure 2 2 sp_judge w_judge := by
  rintro ds A B - ⟨h, p, rfl, oh, op, hl, hA⟩
  simp only [w_judge, bl?, g2, gAdd, gDiv, gEq, gGe, gGt, gI, gIn, gInt, gIs, gIsNot, gLe, gLen, gList, gLt, gMM, gMod, gMul, gMulS, gNe, gNotIn, gPow, gSorted, gSub, gIadd, gSum, gTuple, puts, sV, sVs, slotM, wAnd, wApp, wAsg, wAug, wAugI, wB, wC, wCall, wCallR, wChain, wCons, wDraw, wDrop, wEnL, wEnT, wExt, wFn, wFnO, wFor, wGCons, wGNil, wGT, wIL, wIT, wIdx, wIf, wIfS, wIsi, wIx, wLc, wLst, wMNil, wMO, wMV, wMix, wN, wNeg, wNil, wNot, wNotT, wO, wOp, wOr, wOwn, wPar, wR1, wR2, wRaise, wRaiseF, wRet, wSeq, wSet, wSetI, wSkip, wTAnd, wTNot, wTOr, wTru, wTry, wTryF, wTup, wV, wYes, wSplit, wJoin, wRstrip, wFmt, wJNil, wJCons, wJs, gStr, gIntS, wIS, gSignNotIn, wSl, wSlt, wPn, wPs, gMulT, wGL, wTryAs, wXf, wXis, wCat, wCatV, wIxV, wDGet, wDIn, wDInT, wDGet2, wDPut, wDisp1, wOwnD, wMD, wForD, wLcD, wFz, wMv, wMinD, gListD, fzS, wDK, wDT, wFldO, wFldS, wMeth, wProp, wLenO, wCallO, wMake, wNewOb, wNewObL, wMethC, gLenD, wDGetV, wPopS, wUpd, wLV, wLI, wForIt, wSortSet, wCallIx, gSortedT, wTabIx, wTree, wForChg, messSlot, wSortLam, wAsgO, startS, List.length_cons, List.length_nil, List.map_cons, List.map_nil, List.getElem?_cons_zero, List.getElem?_cons_succ, List.set_cons_zero, List.set_cons_succ, List.cons_append, List.nil_append, List.append_nil, List.replicate_succ, List.replicate_zero, Nat.reduceAdd, Nat.reduceSub, ↓reduceIte, Bool.false_eq_true, reduceCtorEq, true_and, and_true, true_or, or_true, false_or, or_false, Bool.not_true, Bool.not_false, Bool.true_and, Bool.false_and, Bool.and_true, decide_eq_true_eq, Bool.not_eq_eq_eq_not, exists_eq_left, exists_eq_left', Option.some.injEq]
  refine ⟨h, p, rfl, oh, op, hl, h, p, rfl, op.inP, ?_⟩
  simp only [at_1, startS, List.length_cons, List.length_nil, List.map_cons, List.map_nil, List.getElem?_cons_zero, List.getElem?_cons_succ, List.set_cons_zero, List.set_cons_succ, List.cons_append, List.nil_append, List.append_nil, List.replicate_succ, List.replicate_zero, Nat.reduceAdd, Nat.reduceSub, ↓reduceIte, Bool.false_eq_true, reduceCtorEq, true_and, and_true, true_or, or_true, false_or, or_false, Bool.not_true, Bool.not_false, Bool.true_and, Bool.false_and, Bool.and_true, decide_eq_true_eq, Bool.not_eq_eq_eq_not, exists_eq_left, exists_eq_left', Option.some.injEq]
  exact hA
def sp_made : Spc := fun ds A B => ∃ h p, ds = [eH h, eL p] ∧ OkH h ∧ OkP h.length p ∧ p.length ≤ 20000 ∧ ((goneF h p 0).2 = none → A (eH (goneF h p 0).1)) ∧ ∀ k, (goneF h p 0).2 = some k → B ("BadPlan", [("index", .int (k : Int))])

def w_made : WS :=
    (wSeq (wDrop (wCall sp_check_plan (wCons (wV 0) (wCons (wV 1) wNil))))
    (wSeq (wAsg (wCall sp_gone_through (wCons (wV 0) (wCons (wV 1) wNil))) (wGT 2 (wGCons (wN 2) (wGCons (wN 3) wGNil))))
    (wSeq (wIfS (wB (wOp gIsNot (wV 3) (wC .none))) (wRaiseF "BadPlan" ["index"] (wCons (wV 3) wNil)) wSkip)
    (wRet (wV 2)))))
theorem pure_made : Pure 4 2 sp_made w_made := by
  rintro ds A B - ⟨h, p, rfl, oh, op, hl, hA, hB⟩
  simp only [w_made, bl?, g2, gAdd, gDiv, gEq, gGe, gGt, gI, gIn, gInt, gIs, gIsNot, gLe, gLen, gList, gLt, gMM, gMod, gMul, gMulS, gNe, gNotIn, gPow, gSorted, gSub, gIadd, gSum, gTuple, puts, sV, sVs, slotM, wAnd, wApp, wAsg, wAug, wAugI, wB, wC, wCall, wCallR, wChain, wCons, wDraw, wDrop, wEnL, wEnT, wExt, wFn, wFnO, wFor, wGCons, wGNil, wGT, wIL, wIT, wIdx, wIf, wIfS, wIsi, wIx, wLc, wLst, wMNil, wMO, wMV, wMix, wN, wNeg, wNil, wNot, wNotT, wO, wOp, wOr, wOwn, wPar, wR1, wR2, wRaise, wRaiseF, wRet, wSeq, wSet, wSetI, wSkip, wTAnd, wTNot, wTOr, wTru, wTry, wTryF, wTup, wV, wYes, wSplit, wJoin, wRstrip, wFmt, wJNil, wJCons, wJs, gStr, gIntS, wIS, gSignNotIn, wSl, wSlt, wPn, wPs, gMulT, wGL, wTryAs, wXf, wXis, wCat, wCatV, wIxV, wDGet, wDIn, wDInT, wDGet2, wDPut, wDisp1, wOwnD, wMD, wForD, wLcD, wFz, wMv, wMinD, gListD, fzS, wDK, wDT, wFldO, wFldS, wMeth, wProp, wLenO, wCallO, wMake, wNewOb, wNewObL, wMethC, gLenD, wDGetV, wPopS, wUpd, wLV, wLI, wForIt, wSortSet, wCallIx, gSortedT, wTabIx, wTree, wForChg, messSlot, wSortLam, wAsgO, startS, List.length_cons, List.length_nil, List.map_cons, List.map_nil, List.getElem?_cons_zero, List.getElem?_cons_succ, List.set_cons_zero, List.set_cons_succ, List.cons_append, List.nil_append, List.append_nil, List.replicate_succ, List.replicate_zero, Nat.reduceAdd, Nat.reduceSub, ↓reduceIte, Bool.false_eq_true, reduceCtorEq, true_and, and_true, true_or, or_true, false_or, or_false, Bool.not_true, Bool.not_false, Bool.true_and, Bool.false_and, Bool.and_true, decide_eq_true_eq, Bool.not_eq_eq_eq_not, exists_eq_left, exists_eq_left', Option.some.injEq]
  refine ⟨h, p, rfl, oh, op, hl, h, p, rfl, op.inP, ?_⟩
  simp only [startS, List.length_cons, List.length_nil, List.map_cons, List.map_nil, List.getElem?_cons_zero, List.getElem?_cons_succ, List.set_cons_zero, List.set_cons_succ, List.cons_append, List.nil_append, List.append_nil, List.replicate_succ, List.replicate_zero, Nat.reduceAdd, Nat.reduceSub, ↓reduceIte, Bool.false_eq_true, reduceCtorEq, true_and, and_true, true_or, or_true, false_or, or_false, Bool.not_true, Bool.not_false, Bool.true_and, Bool.false_and, Bool.and_true, decide_eq_true_eq, Bool.not_eq_eq_eq_not, exists_eq_left, exists_eq_left', Option.some.injEq, flat_eH, flat_eO, bl?, g2, gAdd, gDiv, gEq, gGe, gGt, gI, gIn, gInt, gIs, gIsNot, gLe, gLen, gList, gLt, gMM, gMod, gMul, gMulS, gNe, gNotIn, gPow, gSorted, gSub, gIadd, gSum, gTuple, puts, sV, sVs, slotM, wAnd, wApp, wAsg, wAug, wAugI, wB, wC, wCall, wCallR, wChain, wCons, wDraw, wDrop, wEnL, wEnT, wExt, wFn, wFnO, wFor, wGCons, wGNil, wGT, wIL, wIT, wIdx, wIf, wIfS, wIsi, wIx, wLc, wLst, wMNil, wMO, wMV, wMix, wN, wNeg, wNil, wNot, wNotT, wO, wOp, wOr, wOwn, wPar, wR1, wR2, wRaise, wRaiseF, wRet, wSeq, wSet, wSetI, wSkip, wTAnd, wTNot, wTOr, wTru, wTry, wTryF, wTup, wV, wYes, wSplit, wJoin, wRstrip, wFmt, wJNil, wJCons, wJs, gStr, gIntS, wIS, gSignNotIn, wSl, wSlt, wPn, wPs, gMulT, wGL, wTryAs, wXf, wXis, wCat, wCatV, wIxV, wDGet, wDIn, wDInT, wDGet2, wDPut, wDisp1, wOwnD, wMD, wForD, wLcD, wFz, wMv, wMinD, gListD, fzS, wDK, wDT, wFldO, wFldS, wMeth, wProp, wLenO, wCallO, wMake, wNewOb, wNewObL, wMethC, gLenD, wDGetV, wPopS, wUpd, wLV, wLI, wForIt, wSortSet, wCallIx, gSortedT, wTabIx, wTree, wForChg, messSlot, wSortLam, wAsgO]
  cases e : (goneF h p 0).2 with
  | none =>
    simp only [eO, bl?, g2, gAdd, gDiv, gEq, gGe, gGt, gI, gIn, gInt, gIs, gIsNot, gLe, gLen, gList, gLt, gMM, gMod, gMul, gMulS, gNe, gNotIn, gPow, gSorted, gSub, gIadd, gSum, gTuple, puts, sV, sVs, slotM, wAnd, wApp, wAsg, wAug, wAugI, wB, wC, wCall, wCallR, wChain, wCons, wDraw, wDrop, wEnL, wEnT, wExt, wFn, wFnO, wFor, wGCons, wGNil, wGT, wIL, wIT, wIdx, wIf, wIfS, wIsi, wIx, wLc, wLst, wMNil, wMO, wMV, wMix, wN, wNeg, wNil, wNot, wNotT, wO, wOp, wOr, wOwn, wPar, wR1, wR2, wRaise, wRaiseF, wRet, wSeq, wSet, wSetI, wSkip, wTAnd, wTNot, wTOr, wTru, wTry, wTryF, wTup, wV, wYes, wSplit, wJoin, wRstrip, wFmt, wJNil, wJCons, wJs, gStr, gIntS, wIS, gSignNotIn, wSl, wSlt, wPn, wPs, gMulT, wGL, wTryAs, wXf, wXis, wCat, wCatV, wIxV, wDGet, wDIn, wDInT, wDGet2, wDPut, wDisp1, wOwnD, wMD, wForD, wLcD, wFz, wMv, wMinD, gListD, fzS, wDK, wDT, wFldO, wFldS, wMeth, wProp, wLenO, wCallO, wMake, wNewOb, wNewObL, wMethC, gLenD, wDGetV, wPopS, wUpd, wLV, wLI, wForIt, wSortSet, wCallIx, gSortedT, wTabIx, wTree, wForChg, messSlot, wSortLam, wAsgO, startS, List.length_cons, List.length_nil, List.map_cons, List.map_nil, List.getElem?_cons_zero, List.getElem?_cons_succ, List.set_cons_zero, List.set_cons_succ, List.cons_append, List.nil_append, List.append_nil, List.replicate_succ, List.replicate_zero, Nat.reduceAdd, Nat.reduceSub, ↓reduceIte, Bool.false_eq_true, reduceCtorEq, true_and, and_true, true_or, or_true, false_or, or_false, Bool.not_true, Bool.not_false, Bool.true_and, Bool.false_and, Bool.and_true, decide_eq_true_eq, Bool.not_eq_eq_eq_not, exists_eq_left, exists_eq_left', Option.some.injEq]
    exact hA e
  | some k =>
    simp only [eO, bl?, g2, gAdd, gDiv, gEq, gGe, gGt, gI, gIn, gInt, gIs, gIsNot, gLe, gLen, gList, gLt, gMM, gMod, gMul, gMulS, gNe, gNotIn, gPow, gSorted, gSub, gIadd, gSum, gTuple, puts, sV, sVs, slotM, wAnd, wApp, wAsg, wAug, wAugI, wB, wC, wCall, wCallR, wChain, wCons, wDraw, wDrop, wEnL, wEnT, wExt, wFn, wFnO, wFor, wGCons, wGNil, wGT, wIL, wIT, wIdx, wIf, wIfS, wIsi, wIx, wLc, wLst, wMNil, wMO, wMV, wMix, wN, wNeg, wNil, wNot, wNotT, wO, wOp, wOr, wOwn, wPar, wR1, wR2, wRaise, wRaiseF, wRet, wSeq, wSet, wSetI, wSkip, wTAnd, wTNot, wTOr, wTru, wTry, wTryF, wTup, wV, wYes, wSplit, wJoin, wRstrip, wFmt, wJNil, wJCons, wJs, gStr, gIntS, wIS, gSignNotIn, wSl, wSlt, wPn, wPs, gMulT, wGL, wTryAs, wXf, wXis, wCat, wCatV, wIxV, wDGet, wDIn, wDInT, wDGet2, wDPut, wDisp1, wOwnD, wMD, wForD, wLcD, wFz, wMv, wMinD, gListD, fzS, wDK, wDT, wFldO, wFldS, wMeth, wProp, wLenO, wCallO, wMake, wNewOb, wNewObL, wMethC, gLenD, wDGetV, wPopS, wUpd, wLV, wLI, wForIt, wSortSet, wCallIx, gSortedT, wTabIx, wTree, wForChg, messSlot, wSortLam, wAsgO, startS, List.length_cons, List.length_nil, List.map_cons, List.map_nil, List.getElem?_cons_zero, List.getElem?_cons_succ, List.set_cons_zero, List.set_cons_succ, List.cons_append, List.nil_append, List.append_nil, List.replicate_succ, List.replicate_zero, Nat.reduceAdd, Nat.reduceSub, ↓reduceIte, Bool.false_eq_true, reduceCtorEq, true_and, and_true, true_or, or_true, false_or, or_false, Bool.not_true, Bool.not_false, Bool.true_and, Bool.false_and, Bool.and_true, decide_eq_true_eq, Bool.not_eq_eq_eq_not, exists_eq_left, exists_eq_left', Option.some.injEq]
    exact hB k e

/-! ### the law's own defs -/
def sp_law_can : Spc := sp_can_be_made

def w_law_can : WS :=
    (wRet (wChain gLt gLe (wC (.int 0)) (wIx (wV 0) (wIx (wV 1) (wC (.int 1)))) (wIx (wV 0) (wIx (wV 1) (wC (.int 0))))))
theorem pure_law_can : Pure 2 2 sp_law_can w_law_can := by
  rintro ds A B - ⟨h, ⟨i, j⟩, rfl, hi, hj, hA⟩
  have hi : i < h.length := hi
  have hj : j < h.length := hj
  simp only [w_law_can, bl?, g2, gAdd, gDiv, gEq, gGe, gGt, gI, gIn, gInt, gIs, gIsNot, gLe, gLen, gList, gLt, gMM, gMod, gMul, gMulS, gNe, gNotIn, gPow, gSorted, gSub, gIadd, gSum, gTuple, puts, sV, sVs, slotM, wAnd, wApp, wAsg, wAug, wAugI, wB, wC, wCall, wCallR, wChain, wCons, wDraw, wDrop, wEnL, wEnT, wExt, wFn, wFnO, wFor, wGCons, wGNil, wGT, wIL, wIT, wIdx, wIf, wIfS, wIsi, wIx, wLc, wLst, wMNil, wMO, wMV, wMix, wN, wNeg, wNil, wNot, wNotT, wO, wOp, wOr, wOwn, wPar, wR1, wR2, wRaise, wRaiseF, wRet, wSeq, wSet, wSetI, wSkip, wTAnd, wTNot, wTOr, wTru, wTry, wTryF, wTup, wV, wYes, wSplit, wJoin, wRstrip, wFmt, wJNil, wJCons, wJs, gStr, gIntS, wIS, gSignNotIn, wSl, wSlt, wPn, wPs, gMulT, wGL, wTryAs, wXf, wXis, wCat, wCatV, wIxV, wDGet, wDIn, wDInT, wDGet2, wDPut, wDisp1, wOwnD, wMD, wForD, wLcD, wFz, wMv, wMinD, gListD, fzS, wDK, wDT, wFldO, wFldS, wMeth, wProp, wLenO, wCallO, wMake, wNewOb, wNewObL, wMethC, gLenD, wDGetV, wPopS, wUpd, wLV, wLI, wForIt, wSortSet, wCallIx, gSortedT, wTabIx, wTree, wForChg, messSlot, wSortLam, wAsgO, startS, List.length_cons, List.length_nil, List.map_cons, List.map_nil, List.getElem?_cons_zero, List.getElem?_cons_succ, List.set_cons_zero, List.set_cons_succ, List.cons_append, List.nil_append, List.append_nil, List.replicate_succ, List.replicate_zero, Nat.reduceAdd, Nat.reduceSub, ↓reduceIte, Bool.false_eq_true, reduceCtorEq, true_and, and_true, true_or, or_true, false_or, or_false, Bool.not_true, Bool.not_false, Bool.true_and, Bool.false_and, Bool.and_true, decide_eq_true_eq, Bool.not_eq_eq_eq_not, exists_eq_left, exists_eq_left', Option.some.injEq, eH, eP, at_0, at_1, at_gt hi, at_gt hj, flat_int]
  exact if_dec (A := fun b => A (.bool b)) hA
def sp_law_behind : Spc := sp_behind

def w_law_behind : WS :=
    (wSeq (wOwn 2 (wFnO gList (wCons (wV 0) wNil)))
    (wSeq (wSetI 2 (wOp gSub (wIx (wV 2) (wIx (wV 1) (wC (.int 0)))) (wIx (wV 0) (wIx (wV 1) (wC (.int 1))))) (wIx (wV 1) (wC (.int 0))))
    (wSeq (wSetI 2 (wOp gAdd (wIx (wV 2) (wIx (wV 1) (wC (.int 1)))) (wIx (wV 0) (wIx (wV 1) (wC (.int 1))))) (wIx (wV 1) (wC (.int 1))))
    (wRet (wFn gTuple (wCons (wV 2) wNil))))))
theorem pure_law_behind : Pure 3 2 sp_law_behind w_law_behind := by
  rintro ds A B - ⟨h, ⟨i, j⟩, rfl, hi, hj, hA⟩
  have hi : i < h.length := hi
  have hj : j < h.length := hj
  have hj' : j < (h.set i (gt h i - gt h j)).length := by rw [List.length_set]; exact hj
  simp only [w_law_behind, bl?, g2, gAdd, gDiv, gEq, gGe, gGt, gI, gIn, gInt, gIs, gIsNot, gLe, gLen, gList, gLt, gMM, gMod, gMul, gMulS, gNe, gNotIn, gPow, gSorted, gSub, gIadd, gSum, gTuple, puts, sV, sVs, slotM, wAnd, wApp, wAsg, wAug, wAugI, wB, wC, wCall, wCallR, wChain, wCons, wDraw, wDrop, wEnL, wEnT, wExt, wFn, wFnO, wFor, wGCons, wGNil, wGT, wIL, wIT, wIdx, wIf, wIfS, wIsi, wIx, wLc, wLst, wMNil, wMO, wMV, wMix, wN, wNeg, wNil, wNot, wNotT, wO, wOp, wOr, wOwn, wPar, wR1, wR2, wRaise, wRaiseF, wRet, wSeq, wSet, wSetI, wSkip, wTAnd, wTNot, wTOr, wTru, wTry, wTryF, wTup, wV, wYes, wSplit, wJoin, wRstrip, wFmt, wJNil, wJCons, wJs, gStr, gIntS, wIS, gSignNotIn, wSl, wSlt, wPn, wPs, gMulT, wGL, wTryAs, wXf, wXis, wCat, wCatV, wIxV, wDGet, wDIn, wDInT, wDGet2, wDPut, wDisp1, wOwnD, wMD, wForD, wLcD, wFz, wMv, wMinD, gListD, fzS, wDK, wDT, wFldO, wFldS, wMeth, wProp, wLenO, wCallO, wMake, wNewOb, wNewObL, wMethC, gLenD, wDGetV, wPopS, wUpd, wLV, wLI, wForIt, wSortSet, wCallIx, gSortedT, wTabIx, wTree, wForChg, messSlot, wSortLam, wAsgO, startS, List.length_cons, List.length_nil, List.map_cons, List.map_nil, List.getElem?_cons_zero, List.getElem?_cons_succ, List.set_cons_zero, List.set_cons_succ, List.cons_append, List.nil_append, List.append_nil, List.replicate_succ, List.replicate_zero, Nat.reduceAdd, Nat.reduceSub, ↓reduceIte, Bool.false_eq_true, reduceCtorEq, true_and, and_true, true_or, or_true, false_or, or_false, Bool.not_true, Bool.not_false, Bool.true_and, Bool.false_and, Bool.and_true, decide_eq_true_eq, Bool.not_eq_eq_eq_not, exists_eq_left, exists_eq_left', Option.some.injEq, eH, eP, at_0, at_1, at_gt hi, at_gt hj, flat_int, flat_ints, List.length_map, ixN_nat hi, map_set_int, at_gt hj', ixN_nat hj', nat_le]
  exact ⟨⟨_, rfl⟩, ⟨_, rfl⟩, hA⟩
/-- all pairs of two different ones -/
def pairsOf (n : Nat) : List (Nat × Nat) := (List.range n).flatMap fun i => ((List.range n).filter fun j => decide (j ≠ i)).map fun j => (i, j)
theorem pairs_ok {n : Nat} : OkP n (pairsOf n) := fun s hs => by
  unfold pairsOf at hs
  obtain ⟨i, hi, hs⟩ := List.mem_flatMap.mp hs
  obtain ⟨j, hj, rfl⟩ := List.mem_map.mp hs
  obtain ⟨hj, hn⟩ := List.mem_filter.mp hj
  exact ⟨List.mem_range.mp hi, List.mem_range.mp hj, fun e => of_decide_eq_true hn e.symm⟩
theorem pairs_len : ∀ n, n ≤ 6 → (pairsOf n).length = n * (n - 1) := by decide
def sp_law_pairs : Spc := fun ds A _ => ∃ n : Nat, ds = [.int n] ∧ n ≤ 6 ∧ A (.list ((pairsOf n).map eP))

def w_law_pairs : WS :=
    (wSeq (wSet 1 (wO (wLst wNil)))
    (wSeq (wFor (wR1 (wCons (wV 0) wNil)) (wN 2) (wSet 1 (wOp gAdd (wV 1) (wO (wLc (wR1 (wCons (wV 0) wNil)) (wN 3) (wB (wOp gNe (wV 3) (wV 2))) (wTup (wCons (wV 2) (wCons (wV 3) wNil))) [3])))))
    (wRet (wV 1))))
def pairsTo (n k : Nat) : List (Nat × Nat) := (List.range k).flatMap fun i => ((List.range n).filter fun j => decide (j ≠ i)).map fun j => (i, j)
theorem pairsTo_succ (n k : Nat) : pairsTo n (k + 1) = pairsTo n k ++ ((List.range n).filter fun j => decide (j ≠ k)).map fun j => (k, j) := by
  unfold pairsTo
  rw [List.range_succ, List.flatMap_append]
  simp
theorem pairsTo_le (n : Nat) : ∀ k, (pairsTo n k).length ≤ n * k
  | 0 => by simp [pairsTo]
  | k + 1 => by
    have h1 := pairsTo_le n k
    have h2 := List.length_filter_le (fun j => decide (j ≠ k)) (List.range n)
    rw [List.length_range] at h2
    rw [pairsTo_succ, List.length_append, List.length_map, Nat.mul_succ]
    omega
theorem range_small {n : Nat} (h : n ≤ 6) : -(2 : Int) ^ 62 ≤ (n : Int) ∧ (n : Int) < 2 ^ 62 := by
  have : (2 : Int) ^ 62 = 4611686018427387904 := by decide
  omega
theorem pure_law_pairs : Pure 4 1 sp_law_pairs w_law_pairs := by
  rintro ds A B - ⟨n, rfl, hn, hA⟩
  simp only [w_law_pairs, bl?, g2, gAdd, gDiv, gEq, gGe, gGt, gI, gIn, gInt, gIs, gIsNot, gLe, gLen, gList, gLt, gMM, gMod, gMul, gMulS, gNe, gNotIn, gPow, gSorted, gSub, gIadd, gSum, gTuple, puts, sV, sVs, slotM, wAnd, wApp, wAsg, wAug, wAugI, wB, wC, wCall, wCallR, wChain, wCons, wDraw, wDrop, wEnL, wEnT, wExt, wFn, wFnO, wFor, wGCons, wGNil, wGT, wIL, wIT, wIdx, wIf, wIfS, wIsi, wIx, wLc, wLst, wMNil, wMO, wMV, wMix, wN, wNeg, wNil, wNot, wNotT, wO, wOp, wOr, wOwn, wPar, wR1, wR2, wRaise, wRaiseF, wRet, wSeq, wSet, wSetI, wSkip, wTAnd, wTNot, wTOr, wTru, wTry, wTryF, wTup, wV, wYes, wSplit, wJoin, wRstrip, wFmt, wJNil, wJCons, wJs, gStr, gIntS, wIS, gSignNotIn, wSl, wSlt, wPn, wPs, gMulT, wGL, wTryAs, wXf, wXis, wCat, wCatV, wIxV, wDGet, wDIn, wDInT, wDGet2, wDPut, wDisp1, wOwnD, wMD, wForD, wLcD, wFz, wMv, wMinD, gListD, fzS, wDK, wDT, wFldO, wFldS, wMeth, wProp, wLenO, wCallO, wMake, wNewOb, wNewObL, wMethC, gLenD, wDGetV, wPopS, wUpd, wLV, wLI, wForIt, wSortSet, wCallIx, gSortedT, wTabIx, wTree, wForChg, messSlot, wSortLam, wAsgO, startS, List.length_cons, List.length_nil, List.map_cons, List.map_nil, List.getElem?_cons_zero, List.getElem?_cons_succ, List.set_cons_zero, List.set_cons_succ, List.cons_append, List.nil_append, List.append_nil, List.replicate_succ, List.replicate_zero, Nat.reduceAdd, Nat.reduceSub, ↓reduceIte, Bool.false_eq_true, reduceCtorEq, true_and, and_true, true_or, or_true, false_or, or_false, Bool.not_true, Bool.not_false, Bool.true_and, Bool.false_and, Bool.and_true, decide_eq_true_eq, Bool.not_eq_eq_eq_not, exists_eq_left, exists_eq_left', Option.some.injEq]
  refine ⟨by decide, (range_small hn).1, (range_small hn).2, ?_⟩
  rw [rangeD0, Int.toNat_natCast]
  refine for_inv (fun r S => ∃ k s2 s3, k ≤ n ∧ r = ((List.range n).drop k).map (fun (i : Nat) => PyData.int (i : Int)) ∧ S = [.im (.int n), .im (.list ((pairsTo n k).map eP)), s2, s3] ∧ notRng (some s3) = true) _ _ ?_ ⟨0, .un, .un, Nat.zero_le _, by simp, by simp [pairsTo], rfl⟩ ?_
  · rintro d r S ⟨k, s2, s3, hk, er, rfl, hs3⟩ Nx hN
    have hk' : k < n := by
      rcases Nat.lt_or_ge k n with c | c
      · exact c
      · rw [List.drop_eq_nil_of_le (by rw [List.length_range]; exact c)] at er
        cases er
    rw [List.drop_eq_getElem_cons (by rw [List.length_range]; exact hk'), List.getElem_range, List.map_cons] at er
    cases er
    simp only [bl?, g2, gAdd, gDiv, gEq, gGe, gGt, gI, gIn, gInt, gIs, gIsNot, gLe, gLen, gList, gLt, gMM, gMod, gMul, gMulS, gNe, gNotIn, gPow, gSorted, gSub, gIadd, gSum, gTuple, puts, sV, sVs, slotM, wAnd, wApp, wAsg, wAug, wAugI, wB, wC, wCall, wCallR, wChain, wCons, wDraw, wDrop, wEnL, wEnT, wExt, wFn, wFnO, wFor, wGCons, wGNil, wGT, wIL, wIT, wIdx, wIf, wIfS, wIsi, wIx, wLc, wLst, wMNil, wMO, wMV, wMix, wN, wNeg, wNil, wNot, wNotT, wO, wOp, wOr, wOwn, wPar, wR1, wR2, wRaise, wRaiseF, wRet, wSeq, wSet, wSetI, wSkip, wTAnd, wTNot, wTOr, wTru, wTry, wTryF, wTup, wV, wYes, wSplit, wJoin, wRstrip, wFmt, wJNil, wJCons, wJs, gStr, gIntS, wIS, gSignNotIn, wSl, wSlt, wPn, wPs, gMulT, wGL, wTryAs, wXf, wXis, wCat, wCatV, wIxV, wDGet, wDIn, wDInT, wDGet2, wDPut, wDisp1, wOwnD, wMD, wForD, wLcD, wFz, wMv, wMinD, gListD, fzS, wDK, wDT, wFldO, wFldS, wMeth, wProp, wLenO, wCallO, wMake, wNewOb, wNewObL, wMethC, gLenD, wDGetV, wPopS, wUpd, wLV, wLI, wForIt, wSortSet, wCallIx, gSortedT, wTabIx, wTree, wForChg, messSlot, wSortLam, wAsgO, startS, List.length_cons, List.length_nil, List.map_cons, List.map_nil, List.getElem?_cons_zero, List.getElem?_cons_succ, List.set_cons_zero, List.set_cons_succ, List.cons_append, List.nil_append, List.append_nil, List.replicate_succ, List.replicate_zero, Nat.reduceAdd, Nat.reduceSub, ↓reduceIte, Bool.false_eq_true, reduceCtorEq, true_and, and_true, true_or, or_true, false_or, or_false, Bool.not_true, Bool.not_false, Bool.true_and, Bool.false_and, Bool.and_true, decide_eq_true_eq, Bool.not_eq_eq_eq_not, exists_eq_left, exists_eq_left', Option.some.injEq, flat_int, List.all_cons, List.all_nil, hs3]
    refine ⟨(range_small hn).1, (range_small hn).2, ?_⟩
    rw [rangeD0, Int.toNat_natCast]
    refine lc_ok (fun (i : Nat) => PyData.int (i : Int)) (fun j => decide (j ≠ k)) (fun j => eP (k, j)) (List.range n) [] True (fun j hj Yes No hy hno => ?_) (by rw [List.length_range]; simp; omega) trivial fun c' hc' => ?_
    · simp only [bl?, g2, gAdd, gDiv, gEq, gGe, gGt, gI, gIn, gInt, gIs, gIsNot, gLe, gLen, gList, gLt, gMM, gMod, gMul, gMulS, gNe, gNotIn, gPow, gSorted, gSub, gIadd, gSum, gTuple, puts, sV, sVs, slotM, wAnd, wApp, wAsg, wAug, wAugI, wB, wC, wCall, wCallR, wChain, wCons, wDraw, wDrop, wEnL, wEnT, wExt, wFn, wFnO, wFor, wGCons, wGNil, wGT, wIL, wIT, wIdx, wIf, wIfS, wIsi, wIx, wLc, wLst, wMNil, wMO, wMV, wMix, wN, wNeg, wNil, wNot, wNotT, wO, wOp, wOr, wOwn, wPar, wR1, wR2, wRaise, wRaiseF, wRet, wSeq, wSet, wSetI, wSkip, wTAnd, wTNot, wTOr, wTru, wTry, wTryF, wTup, wV, wYes, wSplit, wJoin, wRstrip, wFmt, wJNil, wJCons, wJs, gStr, gIntS, wIS, gSignNotIn, wSl, wSlt, wPn, wPs, gMulT, wGL, wTryAs, wXf, wXis, wCat, wCatV, wIxV, wDGet, wDIn, wDInT, wDGet2, wDPut, wDisp1, wOwnD, wMD, wForD, wLcD, wFz, wMv, wMinD, gListD, fzS, wDK, wDT, wFldO, wFldS, wMeth, wProp, wLenO, wCallO, wMake, wNewOb, wNewObL, wMethC, gLenD, wDGetV, wPopS, wUpd, wLV, wLI, wForIt, wSortSet, wCallIx, gSortedT, wTabIx, wTree, wForChg, messSlot, wSortLam, wAsgO, startS, List.length_cons, List.length_nil, List.map_cons, List.map_nil, List.getElem?_cons_zero, List.getElem?_cons_succ, List.set_cons_zero, List.set_cons_succ, List.cons_append, List.nil_append, List.append_nil, List.replicate_succ, List.replicate_zero, Nat.reduceAdd, Nat.reduceSub, ↓reduceIte, Bool.false_eq_true, reduceCtorEq, true_and, and_true, true_or, or_true, false_or, or_false, Bool.not_true, Bool.not_false, Bool.true_and, Bool.false_and, Bool.and_true, decide_eq_true_eq, Bool.not_eq_eq_eq_not, exists_eq_left, exists_eq_left', Option.some.injEq, wipeS, flat_int, shaped_int, eqv_int]
      by_cases c : j = k
      · subst c
        simpa using hno (by simp)
      · have c' : ¬ ((j : Int) = k) := by omega
        simp [c']
        exact ⟨by decide, hy (by simpa using c)⟩
    · have hlen : (pairsTo n k).length + ((List.range n).filter fun j => decide (j ≠ k)).length ≤ sizeLine := by
        have h1 := pairsTo_le n k
        have h2 := List.length_filter_le (fun j => decide (j ≠ k)) (List.range n)
        rw [List.length_range] at h2
        have h3 : n * k ≤ 6 * 6 := Nat.mul_le_mul hn (by omega)
        rw [sizeLine_eq]
        omega
      have hf : flats ([] ++ (List.filter (fun j => decide (j ≠ k)) (List.range n)).map fun j => eP (k, j)) = true := by
        rw [List.nil_append]
        exact flats_map (fun j => flat_eP _) _
      refine ⟨by simpa using hlen, .inl (.inr hf), hN _ ⟨k + 1, .im (.int (k : Int)), s3, hk', rfl, ?_, hs3⟩⟩
      rw [pairsTo_succ]
      simp [List.map_append, Function.comp_def]
  · rintro S ⟨k, s2, s3, hk, er, rfl, hs3⟩
    have hk' : k = n := by
      rcases Nat.lt_or_ge k n with c | c
      · rw [List.drop_eq_getElem_cons (by rw [List.length_range]; exact c)] at er
        cases er
      · omega
    subst hk'
    exact hA

/-! the heaps that are drawn -/
theorem lc_each {wg : WTg} {wt : WTx} {we : WEx} {c : Prop} {S : Slots} {K : List PyData → Prop → Prop} (Q : PyData → Prop) : ∀ (ds acc : List PyData) (ca : Prop),
    (∀ d ∈ ds, ∀ Yes : PyData → Prop → Prop, (∀ e, Q e → Yes e True) → ∀ No : Prop, wg d c S fun S1 => wt S1 (fun b S2 => S2 = S1 ∧ if b = true then we S1 (fun e ce S3 => S3 = S1 ∧ Yes e ce) noX else No) noX) →
    acc.length + ds.length ≤ 1000000 → ca → (∀ (zs : List PyData) (c' : Prop), zs.length = ds.length → (∀ z ∈ zs, Q z) → c' → K (acc ++ zs) c') → lcL wg wt we c S ds acc ca K
  | [], acc, ca, _, _, hc, hK => by
    have q := hK [] ca rfl (fun z h => by cases h) hc
    rw [List.append_nil] at q
    exact q
  | d :: ds, acc, ca, h, hl, hc, hK => by
    rw [List.length_cons] at hl
    show wg d c S fun S1 => wt S1 (fun b S2 => S2 = S1 ∧ if b = true then we S1 (fun e ce S3 => S3 = S1 ∧ acc.length < sizeLine ∧ lcL wg wt we c S ds (acc ++ [e]) (ca ∧ (ce ∨ flat e = true)) K) noX else lcL wg wt we c S ds acc ca K) noX
    refine h d List.mem_cons_self (fun e ce => acc.length < sizeLine ∧ lcL wg wt we c S ds (acc ++ [e]) (ca ∧ (ce ∨ flat e = true)) K) (fun e he => ⟨by rw [sizeLine_eq]; omega, ?_⟩) _
    refine lc_each Q ds _ _ (fun x hx => h x (List.mem_cons_of_mem _ hx)) (by rw [List.length_append]; show acc.length + 1 + ds.length ≤ _; omega) ⟨hc, .inl trivial⟩ fun zs c' hz hq hc' => ?_
    have q := hK (e :: zs) c' (by rw [List.length_cons, List.length_cons, hz]) (fun z hz => by
      rcases List.mem_cons.mp hz with k | k
      · rw [k]; exact he
      · exact hq z k) hc'
    rw [List.append_assoc]
    exact q
theorem ints_all : ∀ {zs : List PyData} {P : Int → Prop}, (∀ z ∈ zs, ∃ i, z = .int i ∧ P i) → ∃ ns : List Int, zs = ns.map .int ∧ ∀ n ∈ ns, P n
  | [], P, _ => ⟨[], rfl, fun n h => by cases h⟩
  | z :: zs, P, h => by
    obtain ⟨i, rfl, hi⟩ := h z List.mem_cons_self
    obtain ⟨ns, rfl, hn⟩ := ints_all (zs := zs) fun x hx => h x (List.mem_cons_of_mem _ hx)
    exact ⟨i :: ns, rfl, fun n hm => by
      rcases List.mem_cons.mp hm with k | k
      · rw [k]; exact hi
      · exact hn n k⟩
def sp_law_heaps : Spc := fun ds A _ => ∃ lo hi : Nat, ds = [.int lo, .int hi] ∧ 2 ≤ lo ∧ lo ≤ hi ∧ hi ≤ 6 ∧ ∀ h, OkH h → lo ≤ h.length → h.length ≤ hi → A (eH h)

def w_law_heaps : WS :=
    (wSeq (wSet 3 (wOp gAdd (wV 1) (wDraw 0 (wOp gAdd (wOp gSub (wV 2) (wV 1)) (wC (.int 1))))))
    (wSeq (wSet 4 (wIx (wO (wLst (wCons (wC (.int 4)) (wCons (wC (.int 9)) (wCons (wC (.int 60)) (wCons (wOp gPow (wC (.int 10)) (wC (.int 15))) (wCons (wOp gPow (wC (.int 10)) (wC (.int 29))) wNil))))))) (wDraw 0 (wC (.int 5)))))
    (wSeq (wSet 5 (wIx (wO (wLst (wCons (wC (.int 1)) (wCons (wC (.int 1)) (wCons (wC (.int 2)) (wCons (wC (.int 3)) (wCons (wC (.int 8)) wNil))))))) (wDraw 0 (wC (.int 5)))))
    (wSeq (wOwn 6 (wLc (wR1 (wCons (wV 3) wNil)) (wN 7) wYes (wOp gMul (wV 5) (wDraw 0 (wV 4))) [7]))
    (wSeq (wIfS (wB (wOp gEq (wFn (gMM max) (wCons (wV 6) wNil)) (wC (.int 0)))) (wSetI 6 (wV 5) (wDraw 0 (wV 3))) wSkip)
    (wRet (wFn gTuple (wCons (wV 6) wNil))))))))
theorem atD_nat {xs : List PyData} {i : Nat} {d : PyData} (h : xs[i]? = some d) : atD xs (i : Int) = some d := by
  unfold atD ixN
  have hi := (List.getElem?_eq_some_iff.mp h).1
  rw [if_pos (by omega), if_pos (by omega)]
  show xs[(i : Int).toNat]? = some d
  rw [Int.toNat_natCast]
  exact h
theorem far_of {r : Int} (h0 : 0 ≤ r) (h5 : r < 5) : ∃ z : Int, atD [.int 4, .int 9, .int 60, .int ((10 : Int) ^ (15 : Int).toNat), .int ((10 : Int) ^ (29 : Int).toNat)] r = some (.int z) ∧ 1 ≤ z ∧ z ≤ 100000000000000000000000000000 := by
  have e : r = 0 ∨ r = 1 ∨ r = 2 ∨ r = 3 ∨ r = 4 := by omega
  rcases e with e | e | e | e | e <;> subst e <;> exact ⟨_, rfl, by decide, by decide⟩
theorem part_of {r : Int} (h0 : 0 ≤ r) (h5 : r < 5) : ∃ z : Int, atD [.int 1, .int 1, .int 2, .int 3, .int 8] r = some (.int z) ∧ 1 ≤ z ∧ z ≤ 8 := by
  have e : r = 0 ∨ r = 1 ∨ r = 2 ∨ r = 3 ∨ r = 4 := by omega
  rcases e with e | e | e | e | e <;> subst e <;> exact ⟨_, rfl, by decide, by decide⟩
theorem mul_small {i j : Int} (h1 : 0 ≤ i) (h2 : i ≤ 8) (h3 : 0 ≤ j) (h4 : j ≤ 100000000000000000000000000000) : CMulW i j := by
  refine wide_mul (a := 10) (b := 110) ?_ ?_ (by decide) (by decide) (by decide)
  · have : (2 : Nat) ^ 10 = 1024 := by decide
    omega
  · have : (2 : Nat) ^ 110 = 1298074214633706907132624082305024 := by decide
    omega
theorem pure_law_heaps : PureR 7 2 sp_law_heaps w_law_heaps := by
  rintro ds A B a c - ⟨lo, hi, rfl, l2, llh, l6, hA⟩
  have e31 : (10 : Int) ^ 31 = 10000000000000000000000000000000 := by decide
  have p1 : CPow 10 15 := ⟨by decide, by decide, by decide⟩
  have p2 : CPow 10 29 := ⟨by decide, by decide, by decide⟩
  simp only [w_law_heaps, bl?, g2, gAdd, gDiv, gEq, gGe, gGt, gI, gIn, gInt, gIs, gIsNot, gLe, gLen, gList, gLt, gMM, gMod, gMul, gMulS, gNe, gNotIn, gPow, gSorted, gSub, gIadd, gSum, gTuple, puts, sV, sVs, slotM, wAnd, wApp, wAsg, wAug, wAugI, wB, wC, wCall, wCallR, wChain, wCons, wDraw, wDrop, wEnL, wEnT, wExt, wFn, wFnO, wFor, wGCons, wGNil, wGT, wIL, wIT, wIdx, wIf, wIfS, wIsi, wIx, wLc, wLst, wMNil, wMO, wMV, wMix, wN, wNeg, wNil, wNot, wNotT, wO, wOp, wOr, wOwn, wPar, wR1, wR2, wRaise, wRaiseF, wRet, wSeq, wSet, wSetI, wSkip, wTAnd, wTNot, wTOr, wTru, wTry, wTryF, wTup, wV, wYes, wSplit, wJoin, wRstrip, wFmt, wJNil, wJCons, wJs, gStr, gIntS, wIS, gSignNotIn, wSl, wSlt, wPn, wPs, gMulT, wGL, wTryAs, wXf, wXis, wCat, wCatV, wIxV, wDGet, wDIn, wDInT, wDGet2, wDPut, wDisp1, wOwnD, wMD, wForD, wLcD, wFz, wMv, wMinD, gListD, fzS, wDK, wDT, wFldO, wFldS, wMeth, wProp, wLenO, wCallO, wMake, wNewOb, wNewObL, wMethC, gLenD, wDGetV, wPopS, wUpd, wLV, wLI, wForIt, wSortSet, wCallIx, gSortedT, wTabIx, wTree, wForChg, messSlot, wSortLam, wAsgO, startS, List.length_cons, List.length_nil, List.map_cons, List.map_nil, List.getElem?_cons_zero, List.getElem?_cons_succ, List.set_cons_zero, List.set_cons_succ, List.cons_append, List.nil_append, List.append_nil, List.replicate_succ, List.replicate_zero, Nat.reduceAdd, Nat.reduceSub, ↓reduceIte, Bool.false_eq_true, reduceCtorEq, true_and, and_true, true_or, or_true, false_or, or_false, Bool.not_true, Bool.not_false, Bool.true_and, Bool.false_and, Bool.and_true, decide_eq_true_eq, Bool.not_eq_eq_eq_not, exists_eq_left, exists_eq_left', Option.some.injEq]
  refine ⟨a, c, rfl, rfl, by omega, by rw [e31]; omega, fun r r0 r1 => ?_⟩
  obtain ⟨n, hn⟩ : ∃ n : Nat, (lo : Int) + r = n := ⟨((lo : Int) + r).toNat, by omega⟩
  simp only [hn]
  have n2 : lo ≤ n := by omega
  have n6 : n ≤ hi := by omega
  refine ⟨p1, p2, by decide, a, c, rfl, rfl, by decide, by rw [e31]; decide, fun r r0 r1 => ?_⟩
  obtain ⟨far, ef, f1, f2⟩ := far_of r0 r1
  simp only [ef, startS, List.length_cons, List.length_nil, List.map_cons, List.map_nil, List.getElem?_cons_zero, List.getElem?_cons_succ, List.set_cons_zero, List.set_cons_succ, List.cons_append, List.nil_append, List.append_nil, List.replicate_succ, List.replicate_zero, Nat.reduceAdd, Nat.reduceSub, ↓reduceIte, Bool.false_eq_true, reduceCtorEq, true_and, and_true, true_or, or_true, false_or, or_false, Bool.not_true, Bool.not_false, Bool.true_and, Bool.false_and, Bool.and_true, decide_eq_true_eq, Bool.not_eq_eq_eq_not, exists_eq_left, exists_eq_left', Option.some.injEq, flat_int]
  refine ⟨by decide, a, c, rfl, rfl, by decide, by rw [e31]; decide, fun r r0 r1 => ?_⟩
  obtain ⟨part, ep, g1, g2⟩ := part_of r0 r1
  simp only [ep, startS, List.length_cons, List.length_nil, List.map_cons, List.map_nil, List.getElem?_cons_zero, List.getElem?_cons_succ, List.set_cons_zero, List.set_cons_succ, List.cons_append, List.nil_append, List.append_nil, List.replicate_succ, List.replicate_zero, Nat.reduceAdd, Nat.reduceSub, ↓reduceIte, Bool.false_eq_true, reduceCtorEq, true_and, and_true, true_or, or_true, false_or, or_false, Bool.not_true, Bool.not_false, Bool.true_and, Bool.false_and, Bool.and_true, decide_eq_true_eq, Bool.not_eq_eq_eq_not, exists_eq_left, exists_eq_left', Option.some.injEq, flat_int]
  refine ⟨(range_small (by omega)).1, (range_small (by omega)).2, by simp [notRng, isMut], ?_⟩
  rw [rangeD0, Int.toNat_natCast]
  refine lc_each (fun d => ∃ i, d = .int i ∧ 0 ≤ i ∧ i ≤ 8 * 100000000000000000000000000000) _ [] True (fun d hd Yes hy No => ?_) (by simp; omega) trivial fun zs c' hz hq hc' => ?_
  · obtain ⟨i, _, rfl⟩ := List.mem_map.mp hd
    simp only [bl?, g2, gAdd, gDiv, gEq, gGe, gGt, gI, gIn, gInt, gIs, gIsNot, gLe, gLen, gList, gLt, gMM, gMod, gMul, gMulS, gNe, gNotIn, gPow, gSorted, gSub, gIadd, gSum, gTuple, puts, sV, sVs, slotM, wAnd, wApp, wAsg, wAug, wAugI, wB, wC, wCall, wCallR, wChain, wCons, wDraw, wDrop, wEnL, wEnT, wExt, wFn, wFnO, wFor, wGCons, wGNil, wGT, wIL, wIT, wIdx, wIf, wIfS, wIsi, wIx, wLc, wLst, wMNil, wMO, wMV, wMix, wN, wNeg, wNil, wNot, wNotT, wO, wOp, wOr, wOwn, wPar, wR1, wR2, wRaise, wRaiseF, wRet, wSeq, wSet, wSetI, wSkip, wTAnd, wTNot, wTOr, wTru, wTry, wTryF, wTup, wV, wYes, wSplit, wJoin, wRstrip, wFmt, wJNil, wJCons, wJs, gStr, gIntS, wIS, gSignNotIn, wSl, wSlt, wPn, wPs, gMulT, wGL, wTryAs, wXf, wXis, wCat, wCatV, wIxV, wDGet, wDIn, wDInT, wDGet2, wDPut, wDisp1, wOwnD, wMD, wForD, wLcD, wFz, wMv, wMinD, gListD, fzS, wDK, wDT, wFldO, wFldS, wMeth, wProp, wLenO, wCallO, wMake, wNewOb, wNewObL, wMethC, gLenD, wDGetV, wPopS, wUpd, wLV, wLI, wForIt, wSortSet, wCallIx, gSortedT, wTabIx, wTree, wForChg, messSlot, wSortLam, wAsgO, startS, List.length_cons, List.length_nil, List.map_cons, List.map_nil, List.getElem?_cons_zero, List.getElem?_cons_succ, List.set_cons_zero, List.set_cons_succ, List.cons_append, List.nil_append, List.append_nil, List.replicate_succ, List.replicate_zero, Nat.reduceAdd, Nat.reduceSub, ↓reduceIte, Bool.false_eq_true, reduceCtorEq, true_and, and_true, true_or, or_true, false_or, or_false, Bool.not_true, Bool.not_false, Bool.true_and, Bool.false_and, Bool.and_true, decide_eq_true_eq, Bool.not_eq_eq_eq_not, exists_eq_left, exists_eq_left', Option.some.injEq, wipeS, flat_int]
    refine ⟨a, c, rfl, rfl, f1, by rw [e31]; omega, fun r r0 r1 => ⟨mul_small (by omega) g2 r0 (by omega), hy _ ⟨_, rfl, Int.mul_nonneg (by omega) r0, Int.mul_le_mul g2 (by omega) r0 (by omega)⟩⟩⟩
  · obtain ⟨ns, rfl, hns⟩ := ints_all hq
    rw [List.nil_append]
    rw [List.length_map, List.length_map, List.length_range] at hz
    have hne : ∃ x xs, ns = x :: xs := by
      cases ns with
      | nil => simp at hz; omega
      | cons x xs => exact ⟨x, xs, rfl⟩
    obtain ⟨x, xs, ens⟩ := hne
    simp only [bl?, g2, gAdd, gDiv, gEq, gGe, gGt, gI, gIn, gInt, gIs, gIsNot, gLe, gLen, gList, gLt, gMM, gMod, gMul, gMulS, gNe, gNotIn, gPow, gSorted, gSub, gIadd, gSum, gTuple, puts, sV, sVs, slotM, wAnd, wApp, wAsg, wAug, wAugI, wB, wC, wCall, wCallR, wChain, wCons, wDraw, wDrop, wEnL, wEnT, wExt, wFn, wFnO, wFor, wGCons, wGNil, wGT, wIL, wIT, wIdx, wIf, wIfS, wIsi, wIx, wLc, wLst, wMNil, wMO, wMV, wMix, wN, wNeg, wNil, wNot, wNotT, wO, wOp, wOr, wOwn, wPar, wR1, wR2, wRaise, wRaiseF, wRet, wSeq, wSet, wSetI, wSkip, wTAnd, wTNot, wTOr, wTru, wTry, wTryF, wTup, wV, wYes, wSplit, wJoin, wRstrip, wFmt, wJNil, wJCons, wJs, gStr, gIntS, wIS, gSignNotIn, wSl, wSlt, wPn, wPs, gMulT, wGL, wTryAs, wXf, wXis, wCat, wCatV, wIxV, wDGet, wDIn, wDInT, wDGet2, wDPut, wDisp1, wOwnD, wMD, wForD, wLcD, wFz, wMv, wMinD, gListD, fzS, wDK, wDT, wFldO, wFldS, wMeth, wProp, wLenO, wCallO, wMake, wNewOb, wNewObL, wMethC, gLenD, wDGetV, wPopS, wUpd, wLV, wLI, wForIt, wSortSet, wCallIx, gSortedT, wTabIx, wTree, wForChg, messSlot, wSortLam, wAsgO, startS, List.length_cons, List.length_nil, List.map_cons, List.map_nil, List.getElem?_cons_zero, List.getElem?_cons_succ, List.set_cons_zero, List.set_cons_succ, List.cons_append, List.nil_append, List.append_nil, List.replicate_succ, List.replicate_zero, Nat.reduceAdd, Nat.reduceSub, ↓reduceIte, Bool.false_eq_true, reduceCtorEq, true_and, and_true, true_or, or_true, false_or, or_false, Bool.not_true, Bool.not_false, Bool.true_and, Bool.false_and, Bool.and_true, decide_eq_true_eq, Bool.not_eq_eq_eq_not, exists_eq_left, exists_eq_left', Option.some.injEq, flat_ints]
    refine ⟨x, xs, by rw [ens]; exact ints?_map (x :: xs), shaped_int _, shaped_int _, ?_⟩
    rw [eqv_int]
    obtain ⟨g1', g2'⟩ := fold_max_ge xs x
    have hm : ∀ y ∈ ns, y ≤ xs.foldl max x := fun y hy => by
      rw [ens] at hy
      rcases List.mem_cons.mp hy with z | z
      · rw [z]; exact g1'
      · exact g2' y z
    by_cases c0 : xs.foldl max x = 0
    · rw [if_pos (decide_eq_true c0)]
      refine ⟨⟨_, rfl⟩, a, c, rfl, rfl, by omega, by rw [e31]; omega, fun r r0 r1 => ?_⟩
      obtain ⟨j, rfl⟩ := Int.eq_ofNat_of_zero_le r0
      have hj : j < ns.length := by omega
      simp only [startS, List.length_cons, List.length_nil, List.map_cons, List.map_nil, List.getElem?_cons_zero, List.getElem?_cons_succ, List.set_cons_zero, List.set_cons_succ, List.cons_append, List.nil_append, List.append_nil, List.replicate_succ, List.replicate_zero, Nat.reduceAdd, Nat.reduceSub, ↓reduceIte, Bool.false_eq_true, reduceCtorEq, true_and, and_true, true_or, or_true, false_or, or_false, Bool.not_true, Bool.not_false, Bool.true_and, Bool.false_and, Bool.and_true, decide_eq_true_eq, Bool.not_eq_eq_eq_not, exists_eq_left, exists_eq_left', Option.some.injEq, List.length_map]
      refine ⟨j, by exact ixN_nat hj, ?_⟩
      rw [map_set_int]
      refine (hA _ ⟨by rw [List.length_set]; omega, by rw [List.length_set]; omega, fun y hy => ?_, part, List.mem_set hj _, by omega⟩ (by rw [List.length_set]; omega) (by rw [List.length_set]; omega))
      rcases List.mem_or_eq_of_mem_set hy with z | z
      · have := hns y z; have : big = 1000000000000000000000000000000 := rfl; omega
      · have : big = 1000000000000000000000000000000 := rfl; omega
    · rw [if_neg (by simpa using c0)]
      refine (hA _ ⟨by omega, by omega, fun y hy => by have := hns y hy; have : big = 1000000000000000000000000000000 := rfl; omega, xs.foldl max x, ?_, c0⟩ (by omega) (by omega))
      rw [ens]
      rcases fold_max_in xs x with q | q
      · rw [q]; exact List.mem_cons_self
      · exact List.mem_cons_of_mem _ q
end Pu


namespace Nt
/-! ### plain numbers: doubling modulo a sum -/
theorem gcd_sum (a b : Nat) : Nat.gcd a (a + b) = Nat.gcd a b := by
  simp
theorem sum_dvd {a b : Nat} (h : 0 < a + b) (k : Nat) : (a + b) ∣ a * k ↔ (a + b) / Nat.gcd a b ∣ k := by
  have hg : 0 < Nat.gcd a b := Nat.pos_of_ne_zero fun z => by
    have := Nat.gcd_eq_zero_iff.mp z
    omega
  have d1 : Nat.gcd a b ∣ a + b := Nat.dvd_add (Nat.gcd_dvd_left a b) (Nat.gcd_dvd_right a b)
  have d2 : Nat.gcd a b ∣ a := Nat.gcd_dvd_left a b
  have hc : Nat.Coprime ((a + b) / Nat.gcd a b) (a / Nat.gcd a b) := by
    have q := Nat.coprime_div_gcd_div_gcd (m := a) (n := a + b) (by rw [gcd_sum]; exact hg)
    rw [gcd_sum] at q
    exact q.symm
  have e1 : a + b = Nat.gcd a b * ((a + b) / Nat.gcd a b) := (Nat.mul_div_cancel' d1).symm
  have e2 : a = Nat.gcd a b * (a / Nat.gcd a b) := (Nat.mul_div_cancel' d2).symm
  generalize hn : (a + b) / Nat.gcd a b = n at *
  generalize hm : a / Nat.gcd a b = m at *
  generalize hgg : Nat.gcd a b = g at *
  rw [e1, e2, Nat.mul_assoc, Nat.mul_dvd_mul_iff_left hg]
  constructor
  · intro h
    exact hc.dvd_of_dvd_mul_left h
  · intro h
    exact Nat.dvd_trans h (Nat.dvd_mul_left k m)
theorem odd_cop {l : Nat} (h : l % 2 = 1) (m : Nat) : Nat.Coprime l (2 ^ m) := by
  refine Nat.Coprime.pow_right m ?_
  rw [Nat.coprime_comm]
  have := Nat.gcd_rec 2 l
  unfold Nat.Coprime
  rw [this, h]
  rfl
theorem dvd_two {l f m : Nat} (h : l % 2 = 1) : l * 2 ^ f ∣ 2 ^ m ↔ l = 1 ∧ f ≤ m := by
  constructor
  · intro q
    have q1 : l ∣ 2 ^ m := Nat.dvd_trans (Nat.dvd_mul_right l _) q
    have q2 : 2 ^ f ∣ 2 ^ m := Nat.dvd_trans (Nat.dvd_mul_left _ l) q
    exact ⟨Nat.Coprime.eq_one_of_dvd (odd_cop h m) q1, (Nat.pow_dvd_pow_iff_le_right (by decide)).mp q2⟩
  · rintro ⟨rfl, q⟩
    rw [Nat.one_mul]
    exact Nat.pow_dvd_pow 2 q
theorem two_pred_odd {d : Nat} (h : 1 ≤ d) : (2 ^ d - 1) % 2 = 1 := by
  obtain ⟨k, rfl⟩ : ∃ k, d = k + 1 := ⟨d - 1, by omega⟩
  have := Nat.two_pow_pos k
  rw [Nat.pow_succ]
  omega
theorem dvd_diff {l f i d : Nat} (h : l % 2 = 1) (hd : 1 ≤ d) : l * 2 ^ f ∣ 2 ^ i * (2 ^ d - 1) ↔ f ≤ i ∧ l ∣ 2 ^ d - 1 := by
  constructor
  · intro q
    have q1 : l ∣ 2 ^ i * (2 ^ d - 1) := Nat.dvd_trans (Nat.dvd_mul_right l _) q
    have q2 : 2 ^ f ∣ 2 ^ i * (2 ^ d - 1) := Nat.dvd_trans (Nat.dvd_mul_left _ l) q
    refine ⟨?_, (odd_cop h i).dvd_of_dvd_mul_left q1⟩
    have c : Nat.Coprime (2 ^ f) (2 ^ d - 1) := (odd_cop (two_pred_odd hd) f).symm
    exact (Nat.pow_dvd_pow_iff_le_right (by decide)).mp (c.dvd_of_dvd_mul_right q2)
  · rintro ⟨q1, q2⟩
    rw [Nat.mul_comm l]
    exact Nat.mul_dvd_mul (Nat.pow_dvd_pow 2 q1) q2
/-- a · 2^i and a · 2^j modulo a + b -/
theorem same_iff {a b i d : Nat} (h : 0 < a + b) : a * 2 ^ (i + d) % (a + b) = a * 2 ^ i % (a + b) ↔ (a + b) / Nat.gcd a b ∣ 2 ^ i * (2 ^ d - 1) := by
  rw [← sum_dvd h]
  have e : a * 2 ^ (i + d) - a * 2 ^ i = a * (2 ^ i * (2 ^ d - 1)) := by
    rw [Nat.pow_add, Nat.mul_sub, Nat.mul_one, Nat.mul_sub]
  have le : a * 2 ^ i ≤ a * 2 ^ (i + d) := Nat.mul_le_mul_left a (Nat.pow_le_pow_right (by decide) (by omega))
  rw [← e]
  constructor
  · intro q
    exact Nat.dvd_of_mod_eq_zero (Nat.sub_mod_eq_zero_of_mod_eq q)
  · rintro ⟨c, hc⟩
    have e2 : a * 2 ^ (i + d) = a * 2 ^ i + (a + b) * c := by omega
    rw [e2, Nat.add_mul_mod_self_left]
/-- pigeons: among 2^0 .. 2^l two are alike modulo l -/
theorem alike (f : Nat → Nat) (l : Nat) (hf : ∀ k, f k < l) : ∃ i j, i < j ∧ j ≤ l ∧ f i = f j := by
  rcases Classical.em (∃ i j, i < j ∧ j ≤ l ∧ f i = f j) with c | c
  · exact c
  · exfalso
    have nd : ((List.range (l + 1)).map f).Nodup := by
      rw [List.Nodup, List.pairwise_map]
      refine List.Pairwise.imp_of_mem (R := fun x y => x < y) (fun {x y} hx hy hlt e => ?_) List.pairwise_lt_range
      exact c ⟨x, y, hlt, Nat.le_of_lt_succ (List.mem_range.mp hy), e⟩
    have hs : ∀ x ∈ (List.range (l + 1)).map f, x ∈ List.range l := fun x hx => by
      obtain ⟨i, _, rfl⟩ := List.mem_map.mp hx
      exact List.mem_range.mpr (hf i)
    have q := nd.length_le_of_subset hs
    rw [List.length_map, List.length_range, List.length_range] at q
    omega
theorem has_ring {l : Nat} (h : l % 2 = 1) : ∃ r, 1 ≤ r ∧ l ∣ 2 ^ r - 1 := by
  obtain ⟨i, j, hij, _, e⟩ := alike (fun k => 2 ^ k % l) l fun k => Nat.mod_lt _ (by omega)
  refine ⟨j - i, by omega, ?_⟩
  have e1 : 2 ^ j = 2 ^ i * 2 ^ (j - i) := by rw [← Nat.pow_add]; congr 1; omega
  have d : l ∣ 2 ^ i * (2 ^ (j - i) - 1) := by
    rw [Nat.mul_sub, Nat.mul_one, ← e1]
    exact Nat.dvd_of_mod_eq_zero (Nat.sub_mod_eq_zero_of_mod_eq e.symm)
  exact (odd_cop h i).dvd_of_dvd_mul_left d
/-- the least r ≥ 1 -/
structure IsRing (l r : Nat) : Prop where
  pos : 1 ≤ r
  dv : l ∣ 2 ^ r - 1
  least : ∀ d, 1 ≤ d → d < r → ¬ l ∣ 2 ^ d - 1
theorem ring_ex {l : Nat} (h : l % 2 = 1) : ∃ r, IsRing l r := by
  obtain ⟨r, h1, h2⟩ := has_ring h
  induction r using Nat.strongRecOn with
  | ind r ih =>
    rcases Classical.em (∃ d, 1 ≤ d ∧ d < r ∧ l ∣ 2 ^ d - 1) with ⟨d, d1, d2, d3⟩ | c
    · exact ih d d2 d1 d3
    · exact ⟨r, h1, h2, fun d d1 d2 d3 => c ⟨d, d1, d2, d3⟩⟩
theorem one_iff {l d : Nat} (h : 2 ≤ l) : 2 ^ d % l = 1 ↔ l ∣ 2 ^ d - 1 := by
  have hp := Nat.two_pow_pos d
  have h1 : 1 % l = 1 := Nat.mod_eq_of_lt (by omega)
  constructor
  · intro q
    exact Nat.dvd_of_mod_eq_zero (Nat.sub_mod_eq_zero_of_mod_eq (by rw [q, h1]))
  · rintro ⟨c, hc⟩
    have e2 : 2 ^ d = 1 + l * c := by omega
    rw [e2, Nat.add_mul_mod_self_left, h1]
end Nt

namespace Pu
open PySem L2
/-! ### pairs.py -/
theorem fmod_nat (x y : Nat) : ((x : Int).fmod (y : Int)) = ((x % y : Nat) : Int) := by
  rw [Int.fmod_eq_emod_of_nonneg _ (Int.natCast_nonneg y)]
  rfl
theorem div_nat (x y : Nat) : ((x : Int) / (y : Int)) = ((x / y : Nat) : Int) := rfl
theorem small_nat {x : Nat} (h : x ≤ 4 * 1000000000000000000000000000000) : ((x : Int)).natAbs < 2 ^ 110 := by
  have : (2 : Nat) ^ 110 = 1298074214633706907132624082305024 := by decide
  omega
theorem mul_nat {x y : Nat} (hx : x ≤ 4 * 1000000000000000000000000000000) (hy : y ≤ 4 * 1000000000000000000000000000000) : CMulW (x : Int) (y : Int) := wide_mul (small_nat hx) (small_nat hy) (by decide) (by decide) (by decide)
theorem divc_nat {x y : Nat} (h0 : 0 < y) (hy : y ≤ 4 * 1000000000000000000000000000000) : CDivW (x : Int) (y : Int) := wide_div (b := 110) (by omega) (small_nat hy) (by decide) (by decide)
def sp_common : Spc := fun ds A _ => ∃ a b : Nat, ds = [.int a, .int b] ∧ A (.int (Nat.gcd a b))

def w_common : WS :=
    (wSeq (wWh (wTru (wV 1)) (wPar 0 1 (wCons (wV 1) (wCons (wOp gMod (wV 0) (wV 1)) wNil))))
    (wRet (wV 0)))
theorem pure_common : Pure 2 2 sp_common w_common := by
  rintro ds A B - ⟨a, b, rfl, hA⟩
  simp only [w_common, bl?, g2, gAdd, gDiv, gEq, gGe, gGt, gI, gIn, gInt, gIs, gIsNot, gLe, gLen, gList, gLt, gMM, gMod, gMul, gMulS, gNe, gNotIn, gPow, gSorted, gSub, gIadd, gSum, gTuple, puts, sV, sVs, slotM, wAnd, wApp, wAsg, wAug, wAugI, wB, wC, wCall, wCallR, wChain, wCons, wDraw, wDrop, wEnL, wEnT, wExt, wFn, wFnO, wFor, wGCons, wGNil, wGT, wIL, wIT, wIdx, wIf, wIfS, wIsi, wIx, wLc, wLst, wMNil, wMO, wMV, wMix, wN, wNeg, wNil, wNot, wNotT, wO, wOp, wOr, wOwn, wPar, wR1, wR2, wRaise, wRaiseF, wRet, wSeq, wSet, wSetI, wSkip, wTAnd, wTNot, wTOr, wTru, wTry, wTryF, wTup, wV, wYes, wSplit, wJoin, wRstrip, wFmt, wJNil, wJCons, wJs, gStr, gIntS, wIS, gSignNotIn, wSl, wSlt, wPn, wPs, gMulT, wGL, wTryAs, wXf, wXis, wCat, wCatV, wIxV, wDGet, wDIn, wDInT, wDGet2, wDPut, wDisp1, wOwnD, wMD, wForD, wLcD, wFz, wMv, wMinD, gListD, fzS, wDK, wDT, wFldO, wFldS, wMeth, wProp, wLenO, wCallO, wMake, wNewOb, wNewObL, wMethC, gLenD, wDGetV, wPopS, wUpd, wLV, wLI, wForIt, wSortSet, wCallIx, gSortedT, wTabIx, wTree, wForChg, messSlot, wSortLam, wAsgO, startS, List.length_cons, List.length_nil, List.map_cons, List.map_nil, List.getElem?_cons_zero, List.getElem?_cons_succ, List.set_cons_zero, List.set_cons_succ, List.cons_append, List.nil_append, List.append_nil, List.replicate_succ, List.replicate_zero, Nat.reduceAdd, Nat.reduceSub, ↓reduceIte, Bool.false_eq_true, reduceCtorEq, true_and, and_true, true_or, or_true, false_or, or_false, Bool.not_true, Bool.not_false, Bool.true_and, Bool.false_and, Bool.and_true, decide_eq_true_eq, Bool.not_eq_eq_eq_not, exists_eq_left, exists_eq_left', Option.some.injEq]
  refine ⟨b + 1, wh_ok (fun (s : Nat × Nat) S => S = [.im (.int (s.1 : Int)), .im (.int (s.2 : Int))] ∧ Nat.gcd s.1 s.2 = Nat.gcd a b) (fun s => s.2) ?_ (b + 1) (a, b) _ (Nat.lt_succ_self b) ⟨rfl, rfl⟩⟩
  rintro ⟨x, y⟩ S ⟨rfl, hg⟩ Nx hN
  have hg : Nat.gcd x y = Nat.gcd a b := hg
  by_cases c : y = 0
  · subst c
    rw [Nat.gcd_zero_right] at hg
    simp only [bl?, g2, gAdd, gDiv, gEq, gGe, gGt, gI, gIn, gInt, gIs, gIsNot, gLe, gLen, gList, gLt, gMM, gMod, gMul, gMulS, gNe, gNotIn, gPow, gSorted, gSub, gIadd, gSum, gTuple, puts, sV, sVs, slotM, wAnd, wApp, wAsg, wAug, wAugI, wB, wC, wCall, wCallR, wChain, wCons, wDraw, wDrop, wEnL, wEnT, wExt, wFn, wFnO, wFor, wGCons, wGNil, wGT, wIL, wIT, wIdx, wIf, wIfS, wIsi, wIx, wLc, wLst, wMNil, wMO, wMV, wMix, wN, wNeg, wNil, wNot, wNotT, wO, wOp, wOr, wOwn, wPar, wR1, wR2, wRaise, wRaiseF, wRet, wSeq, wSet, wSetI, wSkip, wTAnd, wTNot, wTOr, wTru, wTry, wTryF, wTup, wV, wYes, wSplit, wJoin, wRstrip, wFmt, wJNil, wJCons, wJs, gStr, gIntS, wIS, gSignNotIn, wSl, wSlt, wPn, wPs, gMulT, wGL, wTryAs, wXf, wXis, wCat, wCatV, wIxV, wDGet, wDIn, wDInT, wDGet2, wDPut, wDisp1, wOwnD, wMD, wForD, wLcD, wFz, wMv, wMinD, gListD, fzS, wDK, wDT, wFldO, wFldS, wMeth, wProp, wLenO, wCallO, wMake, wNewOb, wNewObL, wMethC, gLenD, wDGetV, wPopS, wUpd, wLV, wLI, wForIt, wSortSet, wCallIx, gSortedT, wTabIx, wTree, wForChg, messSlot, wSortLam, wAsgO, startS, List.length_cons, List.length_nil, List.map_cons, List.map_nil, List.getElem?_cons_zero, List.getElem?_cons_succ, List.set_cons_zero, List.set_cons_succ, List.cons_append, List.nil_append, List.append_nil, List.replicate_succ, List.replicate_zero, Nat.reduceAdd, Nat.reduceSub, ↓reduceIte, Bool.false_eq_true, reduceCtorEq, true_and, and_true, true_or, or_true, false_or, or_false, Bool.not_true, Bool.not_false, Bool.true_and, Bool.false_and, Bool.and_true, decide_eq_true_eq, Bool.not_eq_eq_eq_not, exists_eq_left, exists_eq_left', Option.some.injEq]
    rw [← hg] at hA
    simpa using hA
  · have c' : ((y : Int) != 0) = true := by simpa using c
    have c2 : (y : Int) ≠ 0 := by omega
    simp only [bl?, g2, gAdd, gDiv, gEq, gGe, gGt, gI, gIn, gInt, gIs, gIsNot, gLe, gLen, gList, gLt, gMM, gMod, gMul, gMulS, gNe, gNotIn, gPow, gSorted, gSub, gIadd, gSum, gTuple, puts, sV, sVs, slotM, wAnd, wApp, wAsg, wAug, wAugI, wB, wC, wCall, wCallR, wChain, wCons, wDraw, wDrop, wEnL, wEnT, wExt, wFn, wFnO, wFor, wGCons, wGNil, wGT, wIL, wIT, wIdx, wIf, wIfS, wIsi, wIx, wLc, wLst, wMNil, wMO, wMV, wMix, wN, wNeg, wNil, wNot, wNotT, wO, wOp, wOr, wOwn, wPar, wR1, wR2, wRaise, wRaiseF, wRet, wSeq, wSet, wSetI, wSkip, wTAnd, wTNot, wTOr, wTru, wTry, wTryF, wTup, wV, wYes, wSplit, wJoin, wRstrip, wFmt, wJNil, wJCons, wJs, gStr, gIntS, wIS, gSignNotIn, wSl, wSlt, wPn, wPs, gMulT, wGL, wTryAs, wXf, wXis, wCat, wCatV, wIxV, wDGet, wDIn, wDInT, wDGet2, wDPut, wDisp1, wOwnD, wMD, wForD, wLcD, wFz, wMv, wMinD, gListD, fzS, wDK, wDT, wFldO, wFldS, wMeth, wProp, wLenO, wCallO, wMake, wNewOb, wNewObL, wMethC, gLenD, wDGetV, wPopS, wUpd, wLV, wLI, wForIt, wSortSet, wCallIx, gSortedT, wTabIx, wTree, wForChg, messSlot, wSortLam, wAsgO, startS, List.length_cons, List.length_nil, List.map_cons, List.map_nil, List.getElem?_cons_zero, List.getElem?_cons_succ, List.set_cons_zero, List.set_cons_succ, List.cons_append, List.nil_append, List.append_nil, List.replicate_succ, List.replicate_zero, Nat.reduceAdd, Nat.reduceSub, ↓reduceIte, Bool.false_eq_true, reduceCtorEq, true_and, and_true, true_or, or_true, false_or, or_false, Bool.not_true, Bool.not_false, Bool.true_and, Bool.false_and, Bool.and_true, decide_eq_true_eq, Bool.not_eq_eq_eq_not, exists_eq_left, exists_eq_left', Option.some.injEq, c', fmod_nat, flats, flat, Bool.and_self]
    refine ⟨c2, hN (y, x % y) _ (Nat.mod_lt x (by omega)) ⟨rfl, ?_⟩⟩
    show Nat.gcd y (x % y) = Nat.gcd a b
    rw [← hg, Nat.gcd_comm x y, Nat.gcd_rec y x, Nat.gcd_comm]
def sp_power : Spc := fun ds A _ => ∃ m n : Nat, ds = [.int m, .int n] ∧ 1 ≤ n ∧ n ≤ 2000000000000000000000000000000 ∧ A (.int ((2 ^ m % n : Nat) : Int))

def w_power : WS :=
    (wSeq (wPar 2 3 (wCons (wOp gMod (wC (.int 1)) (wV 1)) (wCons (wOp gMod (wC (.int 2)) (wV 1)) wNil)))
    (wSeq (wWh (wB (wOp gGt (wV 0) (wC (.int 0)))) (wSeq (wIfS (wB (wOp gEq (wOp gMod (wV 0) (wC (.int 2))) (wC (.int 1)))) (wSet 2 (wOp gMod (wOp gMul (wV 2) (wV 3)) (wV 1))) wSkip)
    (wSeq (wSet 3 (wOp gMod (wOp gMul (wV 3) (wV 3)) (wV 1)))
    (wAug 0 gDiv (wC (.int 2))))))
    (wRet (wV 2))))
theorem pure_power : Pure 4 2 sp_power w_power := by
  rintro ds A B - ⟨m, n, rfl, h1, h2, hA⟩
  have n0 : (n : Int) ≠ 0 := by omega
  simp only [w_power, bl?, g2, gAdd, gDiv, gEq, gGe, gGt, gI, gIn, gInt, gIs, gIsNot, gLe, gLen, gList, gLt, gMM, gMod, gMul, gMulS, gNe, gNotIn, gPow, gSorted, gSub, gIadd, gSum, gTuple, puts, sV, sVs, slotM, wAnd, wApp, wAsg, wAug, wAugI, wB, wC, wCall, wCallR, wChain, wCons, wDraw, wDrop, wEnL, wEnT, wExt, wFn, wFnO, wFor, wGCons, wGNil, wGT, wIL, wIT, wIdx, wIf, wIfS, wIsi, wIx, wLc, wLst, wMNil, wMO, wMV, wMix, wN, wNeg, wNil, wNot, wNotT, wO, wOp, wOr, wOwn, wPar, wR1, wR2, wRaise, wRaiseF, wRet, wSeq, wSet, wSetI, wSkip, wTAnd, wTNot, wTOr, wTru, wTry, wTryF, wTup, wV, wYes, wSplit, wJoin, wRstrip, wFmt, wJNil, wJCons, wJs, gStr, gIntS, wIS, gSignNotIn, wSl, wSlt, wPn, wPs, gMulT, wGL, wTryAs, wXf, wXis, wCat, wCatV, wIxV, wDGet, wDIn, wDInT, wDGet2, wDPut, wDisp1, wOwnD, wMD, wForD, wLcD, wFz, wMv, wMinD, gListD, fzS, wDK, wDT, wFldO, wFldS, wMeth, wProp, wLenO, wCallO, wMake, wNewOb, wNewObL, wMethC, gLenD, wDGetV, wPopS, wUpd, wLV, wLI, wForIt, wSortSet, wCallIx, gSortedT, wTabIx, wTree, wForChg, messSlot, wSortLam, wAsgO, startS, List.length_cons, List.length_nil, List.map_cons, List.map_nil, List.getElem?_cons_zero, List.getElem?_cons_succ, List.set_cons_zero, List.set_cons_succ, List.cons_append, List.nil_append, List.append_nil, List.replicate_succ, List.replicate_zero, Nat.reduceAdd, Nat.reduceSub, ↓reduceIte, Bool.false_eq_true, reduceCtorEq, true_and, and_true, true_or, or_true, false_or, or_false, Bool.not_true, Bool.not_false, Bool.true_and, Bool.false_and, Bool.and_true, decide_eq_true_eq, Bool.not_eq_eq_eq_not, exists_eq_left, exists_eq_left', Option.some.injEq]
  have e1 : ((1 : Int).fmod n) = ((1 % n : Nat) : Int) := fmod_nat 1 n
  have e2 : ((2 : Int).fmod n) = ((2 % n : Nat) : Int) := fmod_nat 2 n
  simp only [e1, e2, flats, flat, Bool.and_self, startS, List.length_cons, List.length_nil, List.map_cons, List.map_nil, List.getElem?_cons_zero, List.getElem?_cons_succ, List.set_cons_zero, List.set_cons_succ, List.cons_append, List.nil_append, List.append_nil, List.replicate_succ, List.replicate_zero, Nat.reduceAdd, Nat.reduceSub, ↓reduceIte, Bool.false_eq_true, reduceCtorEq, true_and, and_true, true_or, or_true, false_or, or_false, Bool.not_true, Bool.not_false, Bool.true_and, Bool.false_and, Bool.and_true, decide_eq_true_eq, Bool.not_eq_eq_eq_not, exists_eq_left, exists_eq_left', Option.some.injEq]
  refine ⟨n0, n0, m + 1, wh_ok (fun (s : Nat × Nat × Nat) S => S = [.im (.int (s.1 : Int)), .im (.int (n : Int)), .im (.int (s.2.1 : Int)), .im (.int (s.2.2 : Int))] ∧ s.2.1 < n ∧ s.2.2 < n ∧ s.2.1 * s.2.2 ^ s.1 % n = 2 ^ m % n) (fun s => s.1) ?_ (m + 1) (m, 1 % n, 2 % n) _ (Nat.lt_succ_self m) ⟨rfl, Nat.mod_lt _ (by omega), Nat.mod_lt _ (by omega), ?_⟩⟩
  · rintro ⟨x, f, b⟩ S ⟨rfl, hf, hb, he⟩ Nx hN
    have hf : f < n := hf
    have hb : b < n := hb
    have he : f * b ^ x % n = 2 ^ m % n := he
    by_cases c : x = 0
    · subst c
      rw [Nat.pow_zero, Nat.mul_one, Nat.mod_eq_of_lt hf] at he
      simp only [bl?, g2, gAdd, gDiv, gEq, gGe, gGt, gI, gIn, gInt, gIs, gIsNot, gLe, gLen, gList, gLt, gMM, gMod, gMul, gMulS, gNe, gNotIn, gPow, gSorted, gSub, gIadd, gSum, gTuple, puts, sV, sVs, slotM, wAnd, wApp, wAsg, wAug, wAugI, wB, wC, wCall, wCallR, wChain, wCons, wDraw, wDrop, wEnL, wEnT, wExt, wFn, wFnO, wFor, wGCons, wGNil, wGT, wIL, wIT, wIdx, wIf, wIfS, wIsi, wIx, wLc, wLst, wMNil, wMO, wMV, wMix, wN, wNeg, wNil, wNot, wNotT, wO, wOp, wOr, wOwn, wPar, wR1, wR2, wRaise, wRaiseF, wRet, wSeq, wSet, wSetI, wSkip, wTAnd, wTNot, wTOr, wTru, wTry, wTryF, wTup, wV, wYes, wSplit, wJoin, wRstrip, wFmt, wJNil, wJCons, wJs, gStr, gIntS, wIS, gSignNotIn, wSl, wSlt, wPn, wPs, gMulT, wGL, wTryAs, wXf, wXis, wCat, wCatV, wIxV, wDGet, wDIn, wDInT, wDGet2, wDPut, wDisp1, wOwnD, wMD, wForD, wLcD, wFz, wMv, wMinD, gListD, fzS, wDK, wDT, wFldO, wFldS, wMeth, wProp, wLenO, wCallO, wMake, wNewOb, wNewObL, wMethC, gLenD, wDGetV, wPopS, wUpd, wLV, wLI, wForIt, wSortSet, wCallIx, gSortedT, wTabIx, wTree, wForChg, messSlot, wSortLam, wAsgO, startS, List.length_cons, List.length_nil, List.map_cons, List.map_nil, List.getElem?_cons_zero, List.getElem?_cons_succ, List.set_cons_zero, List.set_cons_succ, List.cons_append, List.nil_append, List.append_nil, List.replicate_succ, List.replicate_zero, Nat.reduceAdd, Nat.reduceSub, ↓reduceIte, Bool.false_eq_true, reduceCtorEq, true_and, and_true, true_or, or_true, false_or, or_false, Bool.not_true, Bool.not_false, Bool.true_and, Bool.false_and, Bool.and_true, decide_eq_true_eq, Bool.not_eq_eq_eq_not, exists_eq_left, exists_eq_left', Option.some.injEq]
      rw [← he] at hA
      simpa using hA
    · have c1 : (0 : Int) < x := by omega
      have m1 : CMulW (f : Int) (b : Int) := mul_nat (by omega) (by omega)
      have m2 : CMulW (b : Int) (b : Int) := mul_nat (by omega) (by omega)
      have e3 : ((x : Int).fmod 2) = ((x % 2 : Nat) : Int) := fmod_nat x 2
      have e4 : ((x : Int) / 2) = ((x / 2 : Nat) : Int) := rfl
      have d2 : CDivW (x : Int) 2 := ⟨by decide, by decide⟩
      have mb : ((f : Int) * b).fmod n = ((f * b % n : Nat) : Int) := fmod_nat (f * b) n
      have bb : ((b : Int) * b).fmod n = ((b * b % n : Nat) : Int) := fmod_nat (b * b) n
      simp only [bl?, g2, gAdd, gDiv, gEq, gGe, gGt, gI, gIn, gInt, gIs, gIsNot, gLe, gLen, gList, gLt, gMM, gMod, gMul, gMulS, gNe, gNotIn, gPow, gSorted, gSub, gIadd, gSum, gTuple, puts, sV, sVs, slotM, wAnd, wApp, wAsg, wAug, wAugI, wB, wC, wCall, wCallR, wChain, wCons, wDraw, wDrop, wEnL, wEnT, wExt, wFn, wFnO, wFor, wGCons, wGNil, wGT, wIL, wIT, wIdx, wIf, wIfS, wIsi, wIx, wLc, wLst, wMNil, wMO, wMV, wMix, wN, wNeg, wNil, wNot, wNotT, wO, wOp, wOr, wOwn, wPar, wR1, wR2, wRaise, wRaiseF, wRet, wSeq, wSet, wSetI, wSkip, wTAnd, wTNot, wTOr, wTru, wTry, wTryF, wTup, wV, wYes, wSplit, wJoin, wRstrip, wFmt, wJNil, wJCons, wJs, gStr, gIntS, wIS, gSignNotIn, wSl, wSlt, wPn, wPs, gMulT, wGL, wTryAs, wXf, wXis, wCat, wCatV, wIxV, wDGet, wDIn, wDInT, wDGet2, wDPut, wDisp1, wOwnD, wMD, wForD, wLcD, wFz, wMv, wMinD, gListD, fzS, wDK, wDT, wFldO, wFldS, wMeth, wProp, wLenO, wCallO, wMake, wNewOb, wNewObL, wMethC, gLenD, wDGetV, wPopS, wUpd, wLV, wLI, wForIt, wSortSet, wCallIx, gSortedT, wTabIx, wTree, wForChg, messSlot, wSortLam, wAsgO, startS, List.length_cons, List.length_nil, List.map_cons, List.map_nil, List.getElem?_cons_zero, List.getElem?_cons_succ, List.set_cons_zero, List.set_cons_succ, List.cons_append, List.nil_append, List.append_nil, List.replicate_succ, List.replicate_zero, Nat.reduceAdd, Nat.reduceSub, ↓reduceIte, Bool.false_eq_true, reduceCtorEq, true_and, and_true, true_or, or_true, false_or, or_false, Bool.not_true, Bool.not_false, Bool.true_and, Bool.false_and, Bool.and_true, decide_eq_true_eq, Bool.not_eq_eq_eq_not, exists_eq_left, exists_eq_left', Option.some.injEq, c1, decide_true, e3, e4, mb, bb, flat, shaped_int, eqv_int]
      have hx : x = 2 * (x / 2) + x % 2 := by omega
      have hpow : (b * b % n) ^ (x / 2) % n = b ^ (2 * (x / 2)) % n := by
        rw [← Nat.pow_mod, Nat.pow_mul, Nat.pow_two]
      by_cases ho : x % 2 = 1
      · have ho' : (((x % 2 : Nat) : Int) = 1) := by omega
        simp only [ho', decide_true, startS, List.length_cons, List.length_nil, List.map_cons, List.map_nil, List.getElem?_cons_zero, List.getElem?_cons_succ, List.set_cons_zero, List.set_cons_succ, List.cons_append, List.nil_append, List.append_nil, List.replicate_succ, List.replicate_zero, Nat.reduceAdd, Nat.reduceSub, ↓reduceIte, Bool.false_eq_true, reduceCtorEq, true_and, and_true, true_or, or_true, false_or, or_false, Bool.not_true, Bool.not_false, Bool.true_and, Bool.false_and, Bool.and_true, decide_eq_true_eq, Bool.not_eq_eq_eq_not, exists_eq_left, exists_eq_left', Option.some.injEq]
        refine ⟨by decide, m1, n0, m2, n0, d2, hN (x / 2, f * b % n, b * b % n) _ (by show x / 2 < x; omega) ⟨rfl, Nat.mod_lt _ (by omega), Nat.mod_lt _ (by omega), ?_⟩⟩
        show f * b % n * (b * b % n) ^ (x / 2) % n = 2 ^ m % n
        rw [← he, Nat.mul_mod, Nat.mod_mod, hpow, ← Nat.mul_mod, Nat.mul_assoc, ← Nat.pow_succ']
        congr 3
        omega
      · have ho' : ¬ (((x % 2 : Nat) : Int) = 1) := by omega
        simp only [ho', decide_false, startS, List.length_cons, List.length_nil, List.map_cons, List.map_nil, List.getElem?_cons_zero, List.getElem?_cons_succ, List.set_cons_zero, List.set_cons_succ, List.cons_append, List.nil_append, List.append_nil, List.replicate_succ, List.replicate_zero, Nat.reduceAdd, Nat.reduceSub, ↓reduceIte, Bool.false_eq_true, reduceCtorEq, true_and, and_true, true_or, or_true, false_or, or_false, Bool.not_true, Bool.not_false, Bool.true_and, Bool.false_and, Bool.and_true, decide_eq_true_eq, Bool.not_eq_eq_eq_not, exists_eq_left, exists_eq_left', Option.some.injEq]
        refine ⟨by decide, m2, n0, d2, hN (x / 2, f, b * b % n) _ (by show x / 2 < x; omega) ⟨rfl, hf, Nat.mod_lt _ (by omega), ?_⟩⟩
        show f * (b * b % n) ^ (x / 2) % n = 2 ^ m % n
        rw [← he, Nat.mul_mod, hpow, ← Nat.mul_mod]
        congr 3
        omega
  · show 1 % n * (2 % n) ^ m % n = 2 ^ m % n
    rw [Nat.mul_mod, Nat.mod_mod, ← Nat.pow_mod, ← Nat.mul_mod, Nat.one_mul]

/-- two heaps as they come: a of w, and the rest -/
def eT (w x : Nat) : PyData := eH [(x : Int), ((w - x : Nat) : Int)]
theorem gt_0 (x y : Int) : gt [x, y] 0 = x := rfl
theorem gt_1 (x y : Int) : gt [x, y] 1 = y := rfl
theorem at_p0 (x y : Int) : atD [PyData.int x, .int y] 0 = some (.int x) := rfl
theorem at_p1 (x y : Int) : atD [PyData.int x, .int y] 1 = some (.int y) := rfl
structure OkT (w x : Nat) : Prop where
  pos : 1 ≤ w
  le : x ≤ w
  ok : OkH [(x : Int), ((w - x : Nat) : Int)]
theorem OkT.big {w x : Nat} (o : OkT w x) : w ≤ 2000000000000000000000000000000 := by
  have h1 := (o.ok.rg (x : Int) (by simp)).2
  have h2 := (o.ok.rg ((w - x : Nat) : Int) (by simp)).2
  have e : Pu.big = 1000000000000000000000000000000 := rfl
  have := o.le
  omega
theorem sum_T {w x : Nat} (h : x ≤ w) : ([(x : Int), ((w - x : Nat) : Int)] : List Int).sum = (w : Int) := by
  simp
  omega
/-- how many steps until one heap is empty: n = l · 2^f, l odd -/
def sp_end_of : Spc := fun ds A _ => ∃ w x : Nat, ds = [eT w x] ∧ OkT w x ∧ ∀ l f, w / Nat.gcd x (w - x) = l * 2 ^ f → l % 2 = 1 → A (eO (if l = 1 then some f else none))

def w_end_of : WS :=
    (wSeq (wSet 1 (wOp gDiv (wFn gSum (wCons (wV 0) wNil)) (wCall sp_common (wCons (wIx (wV 0) (wC (.int 0))) (wCons (wIx (wV 0) (wC (.int 1))) wNil)))))
    (wSeq (wSet 2 (wC (.int 0)))
    (wSeq (wWh (wB (wOp gEq (wOp gMod (wV 1) (wC (.int 2))) (wC (.int 0)))) (wSeq (wAug 1 gDiv (wC (.int 2)))
    (wAug 2 gIadd (wC (.int 1)))))
    (wSeq (wIfS (wB (wOp gGt (wV 1) (wC (.int 1)))) (wRet (wC .none)) wSkip)
    (wRet (wV 2))))))
theorem common_use {a b : Nat} {A : PyData → Prop} {B : XC → Prop} (h : A (.int (Nat.gcd a b))) : sp_common [.int a, .int b] A B := ⟨a, b, rfl, h⟩
theorem quot_pos {w x : Nat} (o : OkT w x) : 1 ≤ w / Nat.gcd x (w - x) ∧ 0 < Nat.gcd x (w - x) := by
  have hp := o.pos
  have hl := o.le
  have hg : 0 < Nat.gcd x (w - x) := Nat.pos_of_ne_zero fun z => by
    have := Nat.gcd_eq_zero_iff.mp z
    omega
  have d : Nat.gcd x (w - x) ∣ w := by
    have q := Nat.dvd_add (Nat.gcd_dvd_left x (w - x)) (Nat.gcd_dvd_right x (w - x))
    have e : x + (w - x) = w := by omega
    rw [e] at q
    exact q
  exact ⟨(Nat.le_div_iff_mul_le hg).mpr (by rw [Nat.one_mul]; exact Nat.le_of_dvd (by omega) d), hg⟩
theorem pure_end_of : Pure 3 1 sp_end_of w_end_of := by
  rintro ds A B - ⟨w, x, rfl, o, hA⟩
  have hb := o.big
  obtain ⟨hq, hg⟩ := quot_pos o
  have hgl : Nat.gcd x (w - x) ≤ w := by
    have q := Nat.dvd_add (Nat.gcd_dvd_left x (w - x)) (Nat.gcd_dvd_right x (w - x))
    have := Nat.le_of_dvd (by have := o.pos; omega) q
    have := o.le
    omega
  have ql : w / Nat.gcd x (w - x) ≤ w := Nat.div_le_self _ _
  simp only [w_end_of, bl?, g2, gAdd, gDiv, gEq, gGe, gGt, gI, gIn, gInt, gIs, gIsNot, gLe, gLen, gList, gLt, gMM, gMod, gMul, gMulS, gNe, gNotIn, gPow, gSorted, gSub, gIadd, gSum, gTuple, puts, sV, sVs, slotM, wAnd, wApp, wAsg, wAug, wAugI, wB, wC, wCall, wCallR, wChain, wCons, wDraw, wDrop, wEnL, wEnT, wExt, wFn, wFnO, wFor, wGCons, wGNil, wGT, wIL, wIT, wIdx, wIf, wIfS, wIsi, wIx, wLc, wLst, wMNil, wMO, wMV, wMix, wN, wNeg, wNil, wNot, wNotT, wO, wOp, wOr, wOwn, wPar, wR1, wR2, wRaise, wRaiseF, wRet, wSeq, wSet, wSetI, wSkip, wTAnd, wTNot, wTOr, wTru, wTry, wTryF, wTup, wV, wYes, wSplit, wJoin, wRstrip, wFmt, wJNil, wJCons, wJs, gStr, gIntS, wIS, gSignNotIn, wSl, wSlt, wPn, wPs, gMulT, wGL, wTryAs, wXf, wXis, wCat, wCatV, wIxV, wDGet, wDIn, wDInT, wDGet2, wDPut, wDisp1, wOwnD, wMD, wForD, wLcD, wFz, wMv, wMinD, gListD, fzS, wDK, wDT, wFldO, wFldS, wMeth, wProp, wLenO, wCallO, wMake, wNewOb, wNewObL, wMethC, gLenD, wDGetV, wPopS, wUpd, wLV, wLI, wForIt, wSortSet, wCallIx, gSortedT, wTabIx, wTree, wForChg, messSlot, wSortLam, wAsgO, startS, List.length_cons, List.length_nil, List.map_cons, List.map_nil, List.getElem?_cons_zero, List.getElem?_cons_succ, List.set_cons_zero, List.set_cons_succ, List.cons_append, List.nil_append, List.append_nil, List.replicate_succ, List.replicate_zero, Nat.reduceAdd, Nat.reduceSub, ↓reduceIte, Bool.false_eq_true, reduceCtorEq, true_and, and_true, true_or, or_true, false_or, or_false, Bool.not_true, Bool.not_false, Bool.true_and, Bool.false_and, Bool.and_true, decide_eq_true_eq, Bool.not_eq_eq_eq_not, exists_eq_left, exists_eq_left', Option.some.injEq, eT, eH, at_p0, at_p1]
  refine ⟨_, ints?_map [(x : Int), ((w - x : Nat) : Int)], common_use ?_⟩
  rw [sum_T o.le]
  simp only [startS, List.length_cons, List.length_nil, List.map_cons, List.map_nil, List.getElem?_cons_zero, List.getElem?_cons_succ, List.set_cons_zero, List.set_cons_succ, List.cons_append, List.nil_append, List.append_nil, List.replicate_succ, List.replicate_zero, Nat.reduceAdd, Nat.reduceSub, ↓reduceIte, Bool.false_eq_true, reduceCtorEq, true_and, and_true, true_or, or_true, false_or, or_false, Bool.not_true, Bool.not_false, Bool.true_and, Bool.false_and, Bool.and_true, decide_eq_true_eq, Bool.not_eq_eq_eq_not, exists_eq_left, exists_eq_left', Option.some.injEq, div_nat, flat]
  refine ⟨divc_nat hg (by omega), ?_⟩
  generalize w / Nat.gcd x (w - x) = n at hA hq ql
  refine ⟨n + 1, wh_ok (fun (s : Nat × Nat) S => ∃ s0, S = [s0, .im (.int (s.1 : Int)), .im (.int (s.2 : Int))] ∧ 1 ≤ s.1 ∧ n = s.1 * 2 ^ s.2) (fun s => s.1) ?_ (n + 1) (n, 0) _ (Nat.lt_succ_self n) ⟨_, rfl, hq, by rw [Nat.pow_zero, Nat.mul_one]⟩⟩
  rintro ⟨y, f⟩ S ⟨s0, rfl, hy, hn⟩ Nx hN
  have hy : 1 ≤ y := hy
  have hn : n = y * 2 ^ f := hn
  have e3 : ((y : Int).fmod 2) = ((y % 2 : Nat) : Int) := fmod_nat y 2
  have e4 : ((y : Int) / 2) = ((y / 2 : Nat) : Int) := rfl
  have d2 : CDivW (y : Int) 2 := ⟨by decide, by decide⟩
  simp only [bl?, g2, gAdd, gDiv, gEq, gGe, gGt, gI, gIn, gInt, gIs, gIsNot, gLe, gLen, gList, gLt, gMM, gMod, gMul, gMulS, gNe, gNotIn, gPow, gSorted, gSub, gIadd, gSum, gTuple, puts, sV, sVs, slotM, wAnd, wApp, wAsg, wAug, wAugI, wB, wC, wCall, wCallR, wChain, wCons, wDraw, wDrop, wEnL, wEnT, wExt, wFn, wFnO, wFor, wGCons, wGNil, wGT, wIL, wIT, wIdx, wIf, wIfS, wIsi, wIx, wLc, wLst, wMNil, wMO, wMV, wMix, wN, wNeg, wNil, wNot, wNotT, wO, wOp, wOr, wOwn, wPar, wR1, wR2, wRaise, wRaiseF, wRet, wSeq, wSet, wSetI, wSkip, wTAnd, wTNot, wTOr, wTru, wTry, wTryF, wTup, wV, wYes, wSplit, wJoin, wRstrip, wFmt, wJNil, wJCons, wJs, gStr, gIntS, wIS, gSignNotIn, wSl, wSlt, wPn, wPs, gMulT, wGL, wTryAs, wXf, wXis, wCat, wCatV, wIxV, wDGet, wDIn, wDInT, wDGet2, wDPut, wDisp1, wOwnD, wMD, wForD, wLcD, wFz, wMv, wMinD, gListD, fzS, wDK, wDT, wFldO, wFldS, wMeth, wProp, wLenO, wCallO, wMake, wNewOb, wNewObL, wMethC, gLenD, wDGetV, wPopS, wUpd, wLV, wLI, wForIt, wSortSet, wCallIx, gSortedT, wTabIx, wTree, wForChg, messSlot, wSortLam, wAsgO, startS, List.length_cons, List.length_nil, List.map_cons, List.map_nil, List.getElem?_cons_zero, List.getElem?_cons_succ, List.set_cons_zero, List.set_cons_succ, List.cons_append, List.nil_append, List.append_nil, List.replicate_succ, List.replicate_zero, Nat.reduceAdd, Nat.reduceSub, ↓reduceIte, Bool.false_eq_true, reduceCtorEq, true_and, and_true, true_or, or_true, false_or, or_false, Bool.not_true, Bool.not_false, Bool.true_and, Bool.false_and, Bool.and_true, decide_eq_true_eq, Bool.not_eq_eq_eq_not, exists_eq_left, exists_eq_left', Option.some.injEq, e3, e4, shaped_int, eqv_int, flat]
  by_cases c : y % 2 = 0
  · have c' : (((y % 2 : Nat) : Int) = 0) := by omega
    simp only [c', decide_true, startS, List.length_cons, List.length_nil, List.map_cons, List.map_nil, List.getElem?_cons_zero, List.getElem?_cons_succ, List.set_cons_zero, List.set_cons_succ, List.cons_append, List.nil_append, List.append_nil, List.replicate_succ, List.replicate_zero, Nat.reduceAdd, Nat.reduceSub, ↓reduceIte, Bool.false_eq_true, reduceCtorEq, true_and, and_true, true_or, or_true, false_or, or_false, Bool.not_true, Bool.not_false, Bool.true_and, Bool.false_and, Bool.and_true, decide_eq_true_eq, Bool.not_eq_eq_eq_not, exists_eq_left, exists_eq_left', Option.some.injEq]
    refine ⟨by decide, d2, hN (y / 2, f + 1) _ (by show y / 2 < y; omega) ⟨s0, rfl, by show 1 ≤ y / 2; omega, ?_⟩⟩
    show n = y / 2 * 2 ^ (f + 1)
    rw [hn, Nat.pow_succ, Nat.mul_comm (2 ^ f) 2, ← Nat.mul_assoc]
    congr 1
    omega
  · have c' : ¬ (((y % 2 : Nat) : Int) = 0) := by omega
    have ho : y % 2 = 1 := by omega
    have hA' := hA y f hn ho
    simp only [c', decide_false, startS, List.length_cons, List.length_nil, List.map_cons, List.map_nil, List.getElem?_cons_zero, List.getElem?_cons_succ, List.set_cons_zero, List.set_cons_succ, List.cons_append, List.nil_append, List.append_nil, List.replicate_succ, List.replicate_zero, Nat.reduceAdd, Nat.reduceSub, ↓reduceIte, Bool.false_eq_true, reduceCtorEq, true_and, and_true, true_or, or_true, false_or, or_false, Bool.not_true, Bool.not_false, Bool.true_and, Bool.false_and, Bool.and_true, decide_eq_true_eq, Bool.not_eq_eq_eq_not, exists_eq_left, exists_eq_left', Option.some.injEq]
    refine ⟨by decide, ?_⟩
    by_cases c1 : y = 1
    · have c2 : ¬ ((1 : Int) < y) := by omega
      rw [if_pos c1] at hA'
      simp only [c2, decide_false, startS, List.length_cons, List.length_nil, List.map_cons, List.map_nil, List.getElem?_cons_zero, List.getElem?_cons_succ, List.set_cons_zero, List.set_cons_succ, List.cons_append, List.nil_append, List.append_nil, List.replicate_succ, List.replicate_zero, Nat.reduceAdd, Nat.reduceSub, ↓reduceIte, Bool.false_eq_true, reduceCtorEq, true_and, and_true, true_or, or_true, false_or, or_false, Bool.not_true, Bool.not_false, Bool.true_and, Bool.false_and, Bool.and_true, decide_eq_true_eq, Bool.not_eq_eq_eq_not, exists_eq_left, exists_eq_left', Option.some.injEq]
      exact hA'
    · have c2 : (1 : Int) < y := by omega
      rw [if_neg c1] at hA'
      simp only [c2, decide_true, startS, List.length_cons, List.length_nil, List.map_cons, List.map_nil, List.getElem?_cons_zero, List.getElem?_cons_succ, List.set_cons_zero, List.set_cons_succ, List.cons_append, List.nil_append, List.append_nil, List.replicate_succ, List.replicate_zero, Nat.reduceAdd, Nat.reduceSub, ↓reduceIte, Bool.false_eq_true, reduceCtorEq, true_and, and_true, true_or, or_true, false_or, or_false, Bool.not_true, Bool.not_false, Bool.true_and, Bool.false_and, Bool.and_true, decide_eq_true_eq, Bool.not_eq_eq_eq_not, exists_eq_left, exists_eq_left', Option.some.injEq]
      exact hA'

/-- when one heap is empty for the first time -/
def EndIs (w x : Nat) : Option Nat → Prop
  | some e => w ∣ x * 2 ^ e ∧ ∀ t, t < e → ¬ w ∣ x * 2 ^ t
  | none => ∀ t, ¬ w ∣ x * 2 ^ t
theorem dvd_T {w x : Nat} (o : OkT w x) (k : Nat) : w ∣ x * k ↔ w / Nat.gcd x (w - x) ∣ k := by
  have e : x + (w - x) = w := by have := o.le; omega
  have q := Nt.sum_dvd (a := x) (b := w - x) (by rw [e]; exact o.pos) k
  rw [e] at q
  exact q
theorem end_is {w x l f : Nat} (o : OkT w x) (h : w / Nat.gcd x (w - x) = l * 2 ^ f) (hl : l % 2 = 1) : EndIs w x (if l = 1 then some f else none) := by
  have key : ∀ t, w ∣ x * 2 ^ t ↔ l = 1 ∧ f ≤ t := fun t => by rw [dvd_T o, h]; exact Nt.dvd_two hl
  by_cases c : l = 1
  · rw [if_pos c]
    exact ⟨(key f).mpr ⟨c, Nat.le_refl f⟩, fun t ht z => by have := ((key t).mp z).2; omega⟩
  · rw [if_neg c]
    exact fun t z => c ((key t).mp z).1
theorem end_use {w x : Nat} {A : PyData → Prop} {B : XC → Prop} (o : OkT w x) (h : ∀ e, EndIs w x e → A (eO e)) : sp_end_of [eT w x] A B := ⟨w, x, rfl, o, fun l f h1 h2 => h _ (end_is o h1 h2)⟩
def sp_check_two : Spc := fun ds A _ => ∃ w x, ds = [eT w x] ∧ OkT w x ∧ A .none

def w_check_two : WS :=
    (wSeq (wDrop (wCall sp_check_heaps (wCons (wV 0) wNil)))
    (wIfS (wB (wOp gNe (wFn gLen (wCons (wV 0) wNil)) (wC (.int 2)))) (wRaise "BadHeaps") wSkip))
theorem pure_check_two : Pure 1 1 sp_check_two w_check_two := by
  rintro ds A B - ⟨w, x, rfl, o, hA⟩
  simp only [w_check_two, bl?, g2, gAdd, gDiv, gEq, gGe, gGt, gI, gIn, gInt, gIs, gIsNot, gLe, gLen, gList, gLt, gMM, gMod, gMul, gMulS, gNe, gNotIn, gPow, gSorted, gSub, gIadd, gSum, gTuple, puts, sV, sVs, slotM, wAnd, wApp, wAsg, wAug, wAugI, wB, wC, wCall, wCallR, wChain, wCons, wDraw, wDrop, wEnL, wEnT, wExt, wFn, wFnO, wFor, wGCons, wGNil, wGT, wIL, wIT, wIdx, wIf, wIfS, wIsi, wIx, wLc, wLst, wMNil, wMO, wMV, wMix, wN, wNeg, wNil, wNot, wNotT, wO, wOp, wOr, wOwn, wPar, wR1, wR2, wRaise, wRaiseF, wRet, wSeq, wSet, wSetI, wSkip, wTAnd, wTNot, wTOr, wTru, wTry, wTryF, wTup, wV, wYes, wSplit, wJoin, wRstrip, wFmt, wJNil, wJCons, wJs, gStr, gIntS, wIS, gSignNotIn, wSl, wSlt, wPn, wPs, gMulT, wGL, wTryAs, wXf, wXis, wCat, wCatV, wIxV, wDGet, wDIn, wDInT, wDGet2, wDPut, wDisp1, wOwnD, wMD, wForD, wLcD, wFz, wMv, wMinD, gListD, fzS, wDK, wDT, wFldO, wFldS, wMeth, wProp, wLenO, wCallO, wMake, wNewOb, wNewObL, wMethC, gLenD, wDGetV, wPopS, wUpd, wLV, wLI, wForIt, wSortSet, wCallIx, gSortedT, wTabIx, wTree, wForChg, messSlot, wSortLam, wAsgO, startS, List.length_cons, List.length_nil, List.map_cons, List.map_nil, List.getElem?_cons_zero, List.getElem?_cons_succ, List.set_cons_zero, List.set_cons_succ, List.cons_append, List.nil_append, List.append_nil, List.replicate_succ, List.replicate_zero, Nat.reduceAdd, Nat.reduceSub, ↓reduceIte, Bool.false_eq_true, reduceCtorEq, true_and, and_true, true_or, or_true, false_or, or_false, Bool.not_true, Bool.not_false, Bool.true_and, Bool.false_and, Bool.and_true, decide_eq_true_eq, Bool.not_eq_eq_eq_not, exists_eq_left, exists_eq_left', Option.some.injEq, eT]
  refine check_ok o.ok ?_
  simp only [eH, bl?, g2, gAdd, gDiv, gEq, gGe, gGt, gI, gIn, gInt, gIs, gIsNot, gLe, gLen, gList, gLt, gMM, gMod, gMul, gMulS, gNe, gNotIn, gPow, gSorted, gSub, gIadd, gSum, gTuple, puts, sV, sVs, slotM, wAnd, wApp, wAsg, wAug, wAugI, wB, wC, wCall, wCallR, wChain, wCons, wDraw, wDrop, wEnL, wEnT, wExt, wFn, wFnO, wFor, wGCons, wGNil, wGT, wIL, wIT, wIdx, wIf, wIfS, wIsi, wIx, wLc, wLst, wMNil, wMO, wMV, wMix, wN, wNeg, wNil, wNot, wNotT, wO, wOp, wOr, wOwn, wPar, wR1, wR2, wRaise, wRaiseF, wRet, wSeq, wSet, wSetI, wSkip, wTAnd, wTNot, wTOr, wTru, wTry, wTryF, wTup, wV, wYes, wSplit, wJoin, wRstrip, wFmt, wJNil, wJCons, wJs, gStr, gIntS, wIS, gSignNotIn, wSl, wSlt, wPn, wPs, gMulT, wGL, wTryAs, wXf, wXis, wCat, wCatV, wIxV, wDGet, wDIn, wDInT, wDGet2, wDPut, wDisp1, wOwnD, wMD, wForD, wLcD, wFz, wMv, wMinD, gListD, fzS, wDK, wDT, wFldO, wFldS, wMeth, wProp, wLenO, wCallO, wMake, wNewOb, wNewObL, wMethC, gLenD, wDGetV, wPopS, wUpd, wLV, wLI, wForIt, wSortSet, wCallIx, gSortedT, wTabIx, wTree, wForChg, messSlot, wSortLam, wAsgO, startS, List.length_cons, List.length_nil, List.map_cons, List.map_nil, List.getElem?_cons_zero, List.getElem?_cons_succ, List.set_cons_zero, List.set_cons_succ, List.cons_append, List.nil_append, List.append_nil, List.replicate_succ, List.replicate_zero, Nat.reduceAdd, Nat.reduceSub, ↓reduceIte, Bool.false_eq_true, reduceCtorEq, true_and, and_true, true_or, or_true, false_or, or_false, Bool.not_true, Bool.not_false, Bool.true_and, Bool.false_and, Bool.and_true, decide_eq_true_eq, Bool.not_eq_eq_eq_not, exists_eq_left, exists_eq_left', Option.some.injEq, shaped_int, eqv_int]
  simpa using hA
/-- the heaps behind t steps -/
def st (w x t : Nat) : Nat := if t = 0 then x else x * 2 ^ t % w
structure StopAt (w x m t : Nat) : Prop where
  le : t ≤ m
  no : ∀ i, i < t → ¬ w ∣ x * 2 ^ i
  at_ : t = m ∨ w ∣ x * 2 ^ t
theorem StopAt.uniq {w x m t t' : Nat} (a : StopAt w x m t) (b : StopAt w x m t') : t = t' := by
  rcases Nat.lt_trichotomy t t' with c | c | c
  · rcases a.at_ with z | z
    · have := b.le; omega
    · exact absurd z (b.no t c)
  · exact c
  · rcases b.at_ with z | z
    · have := a.le; omega
    · exact absurd z (a.no t' c)
theorem big_is : (1000000000000000000000000000000 : Int) = big := rfl
theorem power_use {m n : Nat} {A : PyData → Prop} {B : XC → Prop} (h1 : 1 ≤ n) (h2 : n ≤ 2000000000000000000000000000000) (h : A (.int ((2 ^ m % n : Nat) : Int))) : sp_power [.int (m : Int), .int (n : Int)] A B := ⟨m, n, rfl, h1, h2, h⟩
def sp_after : Spc := fun ds A _ => ∃ w x m : Nat, ds = [eT w x, .int m] ∧ OkT w x ∧ m ≤ 1000000000000000000000000000000 ∧ ∀ t, StopAt w x m t → A (eT w (st w x t))

def w_after : WS :=
    (wSeq (wDrop (wCall sp_check_two (wCons (wV 0) wNil)))
    (wSeq (wIfS (wTNot (wB (wCall sp_is_from (wCons (wV 1) (wCons (wC (.int 0)) (wCons (wC (.int 1000000000000000000000000000000)) wNil)))))) (wRaise "BadMany") wSkip)
    (wSeq (wSet 2 (wFn gSum (wCons (wV 0) wNil)))
    (wSeq (wSet 3 (wCall sp_end_of (wCons (wV 0) wNil)))
    (wSeq (wIfS (wTAnd (wB (wOp gIsNot (wV 3) (wC .none))) (wB (wOp gGe (wV 1) (wV 3)))) (wSeq (wIfS (wB (wOp gEq (wV 3) (wC (.int 0)))) (wRet (wV 0)) wSkip)
    (wRet (wTup (wCons (wC (.int 0)) (wCons (wV 2) wNil))))) wSkip)
    (wSeq (wSet 4 (wOp gMod (wOp gMul (wIx (wV 0) (wC (.int 0))) (wCall sp_power (wCons (wV 1) (wCons (wV 2) wNil)))) (wV 2)))
    (wRet (wTup (wCons (wV 4) (wCons (wOp gSub (wV 2) (wV 4)) wNil))))))))))
theorem pure_after : Pure 5 2 sp_after w_after := by
  rintro ds A B - ⟨w, x, m, rfl, o, hm, hA⟩
  have hb := o.big
  have hle := o.le
  have hpos := o.pos
  have n0 : (w : Int) ≠ 0 := by omega
  simp only [w_after, bl?, g2, gAdd, gDiv, gEq, gGe, gGt, gI, gIn, gInt, gIs, gIsNot, gLe, gLen, gList, gLt, gMM, gMod, gMul, gMulS, gNe, gNotIn, gPow, gSorted, gSub, gIadd, gSum, gTuple, puts, sV, sVs, slotM, wAnd, wApp, wAsg, wAug, wAugI, wB, wC, wCall, wCallR, wChain, wCons, wDraw, wDrop, wEnL, wEnT, wExt, wFn, wFnO, wFor, wGCons, wGNil, wGT, wIL, wIT, wIdx, wIf, wIfS, wIsi, wIx, wLc, wLst, wMNil, wMO, wMV, wMix, wN, wNeg, wNil, wNot, wNotT, wO, wOp, wOr, wOwn, wPar, wR1, wR2, wRaise, wRaiseF, wRet, wSeq, wSet, wSetI, wSkip, wTAnd, wTNot, wTOr, wTru, wTry, wTryF, wTup, wV, wYes, wSplit, wJoin, wRstrip, wFmt, wJNil, wJCons, wJs, gStr, gIntS, wIS, gSignNotIn, wSl, wSlt, wPn, wPs, gMulT, wGL, wTryAs, wXf, wXis, wCat, wCatV, wIxV, wDGet, wDIn, wDInT, wDGet2, wDPut, wDisp1, wOwnD, wMD, wForD, wLcD, wFz, wMv, wMinD, gListD, fzS, wDK, wDT, wFldO, wFldS, wMeth, wProp, wLenO, wCallO, wMake, wNewOb, wNewObL, wMethC, gLenD, wDGetV, wPopS, wUpd, wLV, wLI, wForIt, wSortSet, wCallIx, gSortedT, wTabIx, wTree, wForChg, messSlot, wSortLam, wAsgO, startS, List.length_cons, List.length_nil, List.map_cons, List.map_nil, List.getElem?_cons_zero, List.getElem?_cons_succ, List.set_cons_zero, List.set_cons_succ, List.cons_append, List.nil_append, List.append_nil, List.replicate_succ, List.replicate_zero, Nat.reduceAdd, Nat.reduceSub, ↓reduceIte, Bool.false_eq_true, reduceCtorEq, true_and, and_true, true_or, or_true, false_or, or_false, Bool.not_true, Bool.not_false, Bool.true_and, Bool.false_and, Bool.and_true, decide_eq_true_eq, Bool.not_eq_eq_eq_not, exists_eq_left, exists_eq_left', Option.some.injEq, sp_is_from_eq]
  refine ⟨w, x, rfl, o, ?_⟩
  have hi : inR (.int (m : Int)) 0 1000000000000000000000000000000 = true := by
    have h1 : (0 : Int) ≤ m := Int.natCast_nonneg m
    have h2 : (m : Int) ≤ 1000000000000000000000000000000 := by omega
    simp only [inR, decide_eq_true h1, decide_eq_true h2]
    rfl
  simp only [hi, startS, List.length_cons, List.length_nil, List.map_cons, List.map_nil, List.getElem?_cons_zero, List.getElem?_cons_succ, List.set_cons_zero, List.set_cons_succ, List.cons_append, List.nil_append, List.append_nil, List.replicate_succ, List.replicate_zero, Nat.reduceAdd, Nat.reduceSub, ↓reduceIte, Bool.false_eq_true, reduceCtorEq, true_and, and_true, true_or, or_true, false_or, or_false, Bool.not_true, Bool.not_false, Bool.true_and, Bool.false_and, Bool.and_true, decide_eq_true_eq, Bool.not_eq_eq_eq_not, exists_eq_left, exists_eq_left', Option.some.injEq, eT, eH, at_p0]
  refine ⟨by simp [typD], _, ints?_map [(x : Int), ((w - x : Nat) : Int)], end_use o fun e he => ?_⟩
  rw [sum_T hle]
  have tail : (∀ i, i ≤ m → ¬ w ∣ x * 2 ^ i) → CMulW (x : Int) ((2 ^ m % w : Nat) : Int) ∧ (w : Int) ≠ 0 ∧ 2 ≤ sizeLine ∧ A (.tuple [.int (((x : Int) * ((2 ^ m % w : Nat) : Int)).fmod (w : Int)), .int ((w : Int) - ((x : Int) * ((2 ^ m % w : Nat) : Int)).fmod (w : Int))]) := fun hno => by
    have hlt : 2 ^ m % w < w := Nat.mod_lt _ (by omega)
    refine ⟨mul_nat (by omega) (by omega), n0, by decide, ?_⟩
    have e1 : ((x : Int) * ((2 ^ m % w : Nat) : Int)).fmod (w : Int) = ((x * 2 ^ m % w : Nat) : Int) := by
      rw [← Int.natCast_mul, fmod_nat, Nat.mul_mod_mod]
    rw [e1]
    have hlt2 : x * 2 ^ m % w < w := Nat.mod_lt _ (by omega)
    have e2 : (w : Int) - ((x * 2 ^ m % w : Nat) : Int) = ((w - x * 2 ^ m % w : Nat) : Int) := by omega
    rw [e2]
    have q := hA m ⟨Nat.le_refl m, fun i hi => hno i (Nat.le_of_lt hi), .inl rfl⟩
    unfold st at q
    by_cases c : m = 0
    · subst c
      rw [if_pos rfl] at q
      have hx : x < w := by
        have := hno 0 (Nat.le_refl 0)
        rw [Nat.pow_zero, Nat.mul_one] at this
        rcases Nat.lt_or_ge x w with z | z
        · exact z
        · exact absurd (by have e : x = w := by omega
                           rw [e]
                           exact Nat.dvd_refl w) this
      rw [Nat.pow_zero, Nat.mul_one, Nat.mod_eq_of_lt hx]
      exact q
    · rw [if_neg c] at q
      exact q
  cases e with
  | none =>
    simp only [eO, bl?, g2, gAdd, gDiv, gEq, gGe, gGt, gI, gIn, gInt, gIs, gIsNot, gLe, gLen, gList, gLt, gMM, gMod, gMul, gMulS, gNe, gNotIn, gPow, gSorted, gSub, gIadd, gSum, gTuple, puts, sV, sVs, slotM, wAnd, wApp, wAsg, wAug, wAugI, wB, wC, wCall, wCallR, wChain, wCons, wDraw, wDrop, wEnL, wEnT, wExt, wFn, wFnO, wFor, wGCons, wGNil, wGT, wIL, wIT, wIdx, wIf, wIfS, wIsi, wIx, wLc, wLst, wMNil, wMO, wMV, wMix, wN, wNeg, wNil, wNot, wNotT, wO, wOp, wOr, wOwn, wPar, wR1, wR2, wRaise, wRaiseF, wRet, wSeq, wSet, wSetI, wSkip, wTAnd, wTNot, wTOr, wTru, wTry, wTryF, wTup, wV, wYes, wSplit, wJoin, wRstrip, wFmt, wJNil, wJCons, wJs, gStr, gIntS, wIS, gSignNotIn, wSl, wSlt, wPn, wPs, gMulT, wGL, wTryAs, wXf, wXis, wCat, wCatV, wIxV, wDGet, wDIn, wDInT, wDGet2, wDPut, wDisp1, wOwnD, wMD, wForD, wLcD, wFz, wMv, wMinD, gListD, fzS, wDK, wDT, wFldO, wFldS, wMeth, wProp, wLenO, wCallO, wMake, wNewOb, wNewObL, wMethC, gLenD, wDGetV, wPopS, wUpd, wLV, wLI, wForIt, wSortSet, wCallIx, gSortedT, wTabIx, wTree, wForChg, messSlot, wSortLam, wAsgO, startS, List.length_cons, List.length_nil, List.map_cons, List.map_nil, List.getElem?_cons_zero, List.getElem?_cons_succ, List.set_cons_zero, List.set_cons_succ, List.cons_append, List.nil_append, List.append_nil, List.replicate_succ, List.replicate_zero, Nat.reduceAdd, Nat.reduceSub, ↓reduceIte, Bool.false_eq_true, reduceCtorEq, true_and, and_true, true_or, or_true, false_or, or_false, Bool.not_true, Bool.not_false, Bool.true_and, Bool.false_and, Bool.and_true, decide_eq_true_eq, Bool.not_eq_eq_eq_not, exists_eq_left, exists_eq_left', Option.some.injEq]
    exact power_use hpos hb (tail fun i _ => he i)
  | some k =>
    obtain ⟨k1, k2⟩ := he
    simp only [eO, bl?, g2, gAdd, gDiv, gEq, gGe, gGt, gI, gIn, gInt, gIs, gIsNot, gLe, gLen, gList, gLt, gMM, gMod, gMul, gMulS, gNe, gNotIn, gPow, gSorted, gSub, gIadd, gSum, gTuple, puts, sV, sVs, slotM, wAnd, wApp, wAsg, wAug, wAugI, wB, wC, wCall, wCallR, wChain, wCons, wDraw, wDrop, wEnL, wEnT, wExt, wFn, wFnO, wFor, wGCons, wGNil, wGT, wIL, wIT, wIdx, wIf, wIfS, wIsi, wIx, wLc, wLst, wMNil, wMO, wMV, wMix, wN, wNeg, wNil, wNot, wNotT, wO, wOp, wOr, wOwn, wPar, wR1, wR2, wRaise, wRaiseF, wRet, wSeq, wSet, wSetI, wSkip, wTAnd, wTNot, wTOr, wTru, wTry, wTryF, wTup, wV, wYes, wSplit, wJoin, wRstrip, wFmt, wJNil, wJCons, wJs, gStr, gIntS, wIS, gSignNotIn, wSl, wSlt, wPn, wPs, gMulT, wGL, wTryAs, wXf, wXis, wCat, wCatV, wIxV, wDGet, wDIn, wDInT, wDGet2, wDPut, wDisp1, wOwnD, wMD, wForD, wLcD, wFz, wMv, wMinD, gListD, fzS, wDK, wDT, wFldO, wFldS, wMeth, wProp, wLenO, wCallO, wMake, wNewOb, wNewObL, wMethC, gLenD, wDGetV, wPopS, wUpd, wLV, wLI, wForIt, wSortSet, wCallIx, gSortedT, wTabIx, wTree, wForChg, messSlot, wSortLam, wAsgO, startS, List.length_cons, List.length_nil, List.map_cons, List.map_nil, List.getElem?_cons_zero, List.getElem?_cons_succ, List.set_cons_zero, List.set_cons_succ, List.cons_append, List.nil_append, List.append_nil, List.replicate_succ, List.replicate_zero, Nat.reduceAdd, Nat.reduceSub, ↓reduceIte, Bool.false_eq_true, reduceCtorEq, true_and, and_true, true_or, or_true, false_or, or_false, Bool.not_true, Bool.not_false, Bool.true_and, Bool.false_and, Bool.and_true, decide_eq_true_eq, Bool.not_eq_eq_eq_not, exists_eq_left, exists_eq_left', Option.some.injEq]
    by_cases c : k ≤ m
    · have c' : (k : Int) ≤ m := by omega
      have q := hA k ⟨c, k2, .inr k1⟩
      simp only [c', decide_true, startS, List.length_cons, List.length_nil, List.map_cons, List.map_nil, List.getElem?_cons_zero, List.getElem?_cons_succ, List.set_cons_zero, List.set_cons_succ, List.cons_append, List.nil_append, List.append_nil, List.replicate_succ, List.replicate_zero, Nat.reduceAdd, Nat.reduceSub, ↓reduceIte, Bool.false_eq_true, reduceCtorEq, true_and, and_true, true_or, or_true, false_or, or_false, Bool.not_true, Bool.not_false, Bool.true_and, Bool.false_and, Bool.and_true, decide_eq_true_eq, Bool.not_eq_eq_eq_not, exists_eq_left, exists_eq_left', Option.some.injEq, shaped_int, eqv_int]
      unfold st at q
      by_cases c0 : k = 0
      · subst c0
        rw [if_pos rfl] at q
        simp only [Int.natCast_zero, decide_true, startS, List.length_cons, List.length_nil, List.map_cons, List.map_nil, List.getElem?_cons_zero, List.getElem?_cons_succ, List.set_cons_zero, List.set_cons_succ, List.cons_append, List.nil_append, List.append_nil, List.replicate_succ, List.replicate_zero, Nat.reduceAdd, Nat.reduceSub, ↓reduceIte, Bool.false_eq_true, reduceCtorEq, true_and, and_true, true_or, or_true, false_or, or_false, Bool.not_true, Bool.not_false, Bool.true_and, Bool.false_and, Bool.and_true, decide_eq_true_eq, Bool.not_eq_eq_eq_not, exists_eq_left, exists_eq_left', Option.some.injEq]
        exact q
      · have c2 : ¬ (k : Int) = 0 := by omega
        rw [if_neg c0, Nat.mod_eq_zero_of_dvd k1] at q
        unfold eT at q
        simp only [c2, decide_false, startS, List.length_cons, List.length_nil, List.map_cons, List.map_nil, List.getElem?_cons_zero, List.getElem?_cons_succ, List.set_cons_zero, List.set_cons_succ, List.cons_append, List.nil_append, List.append_nil, List.replicate_succ, List.replicate_zero, Nat.reduceAdd, Nat.reduceSub, ↓reduceIte, Bool.false_eq_true, reduceCtorEq, true_and, and_true, true_or, or_true, false_or, or_false, Bool.not_true, Bool.not_false, Bool.true_and, Bool.false_and, Bool.and_true, decide_eq_true_eq, Bool.not_eq_eq_eq_not, exists_eq_left, exists_eq_left', Option.some.injEq]
        rw [Nat.sub_zero] at q
        exact ⟨by decide, q⟩
    · have c' : ¬ (k : Int) ≤ m := by omega
      simp only [c', decide_false, startS, List.length_cons, List.length_nil, List.map_cons, List.map_nil, List.getElem?_cons_zero, List.getElem?_cons_succ, List.set_cons_zero, List.set_cons_succ, List.cons_append, List.nil_append, List.append_nil, List.replicate_succ, List.replicate_zero, Nat.reduceAdd, Nat.reduceSub, ↓reduceIte, Bool.false_eq_true, reduceCtorEq, true_and, and_true, true_or, or_true, false_or, or_false, Bool.not_true, Bool.not_false, Bool.true_and, Bool.false_and, Bool.and_true, decide_eq_true_eq, Bool.not_eq_eq_eq_not, exists_eq_left, exists_eq_left', Option.some.injEq]
      exact power_use hpos hb (tail fun i hi => k2 i (by omega))

def sp_ends_after : Spc := fun ds A _ => ∃ w x, ds = [eT w x] ∧ OkT w x ∧ ∀ e, EndIs w x e → A (eO e)

def w_ends_after : WS :=
    (wSeq (wDrop (wCall sp_check_two (wCons (wV 0) wNil)))
    (wRet (wCall sp_end_of (wCons (wV 0) wNil))))
theorem pure_ends_after : Pure 1 1 sp_ends_after w_ends_after := by
  rintro ds A B - ⟨w, x, rfl, o, hA⟩
  simp only [w_ends_after, bl?, g2, gAdd, gDiv, gEq, gGe, gGt, gI, gIn, gInt, gIs, gIsNot, gLe, gLen, gList, gLt, gMM, gMod, gMul, gMulS, gNe, gNotIn, gPow, gSorted, gSub, gIadd, gSum, gTuple, puts, sV, sVs, slotM, wAnd, wApp, wAsg, wAug, wAugI, wB, wC, wCall, wCallR, wChain, wCons, wDraw, wDrop, wEnL, wEnT, wExt, wFn, wFnO, wFor, wGCons, wGNil, wGT, wIL, wIT, wIdx, wIf, wIfS, wIsi, wIx, wLc, wLst, wMNil, wMO, wMV, wMix, wN, wNeg, wNil, wNot, wNotT, wO, wOp, wOr, wOwn, wPar, wR1, wR2, wRaise, wRaiseF, wRet, wSeq, wSet, wSetI, wSkip, wTAnd, wTNot, wTOr, wTru, wTry, wTryF, wTup, wV, wYes, wSplit, wJoin, wRstrip, wFmt, wJNil, wJCons, wJs, gStr, gIntS, wIS, gSignNotIn, wSl, wSlt, wPn, wPs, gMulT, wGL, wTryAs, wXf, wXis, wCat, wCatV, wIxV, wDGet, wDIn, wDInT, wDGet2, wDPut, wDisp1, wOwnD, wMD, wForD, wLcD, wFz, wMv, wMinD, gListD, fzS, wDK, wDT, wFldO, wFldS, wMeth, wProp, wLenO, wCallO, wMake, wNewOb, wNewObL, wMethC, gLenD, wDGetV, wPopS, wUpd, wLV, wLI, wForIt, wSortSet, wCallIx, gSortedT, wTabIx, wTree, wForChg, messSlot, wSortLam, wAsgO, startS, List.length_cons, List.length_nil, List.map_cons, List.map_nil, List.getElem?_cons_zero, List.getElem?_cons_succ, List.set_cons_zero, List.set_cons_succ, List.cons_append, List.nil_append, List.append_nil, List.replicate_succ, List.replicate_zero, Nat.reduceAdd, Nat.reduceSub, ↓reduceIte, Bool.false_eq_true, reduceCtorEq, true_and, and_true, true_or, or_true, false_or, or_false, Bool.not_true, Bool.not_false, Bool.true_and, Bool.false_and, Bool.and_true, decide_eq_true_eq, Bool.not_eq_eq_eq_not, exists_eq_left, exists_eq_left', Option.some.injEq]
  exact ⟨w, x, rfl, o, end_use o hA⟩
/-- tail and ring -/
structure RingIs (w x f r : Nat) : Prop where
  ex : ∃ l, w / Nat.gcd x (w - x) = l * 2 ^ f ∧ l % 2 = 1 ∧ l ≠ 1 ∧ Nt.IsRing l r
def sp_tail_and_ring : Spc := fun ds A B => ∃ w x, ds = [eT w x] ∧ OkT w x ∧ (1000000 < w → B ("TooGreat", [])) ∧ (w ≤ 1000000 → (∀ e, EndIs w x (some e) → A (.tuple [.int (e : Int), .int 0])) ∧ ∀ f r, RingIs w x f r → A (.tuple [.int (f : Int), .int (r : Int)]))

def w_tail_and_ring : WS :=
    (wSeq (wDrop (wCall sp_check_two (wCons (wV 0) wNil)))
    (wSeq (wSet 1 (wFn gSum (wCons (wV 0) wNil)))
    (wSeq (wIfS (wB (wOp gGt (wV 1) (wC (.int 1000000)))) (wRaise "TooGreat") wSkip)
    (wSeq (wSet 2 (wCall sp_end_of (wCons (wV 0) wNil)))
    (wSeq (wIfS (wB (wOp gIsNot (wV 2) (wC .none))) (wRet (wTup (wCons (wV 2) (wCons (wC (.int 0)) wNil)))) wSkip)
    (wSeq (wSet 3 (wOp gDiv (wV 1) (wCall sp_common (wCons (wIx (wV 0) (wC (.int 0))) (wCons (wIx (wV 0) (wC (.int 1))) wNil)))))
    (wSeq (wSet 4 (wC (.int 0)))
    (wSeq (wWh (wB (wOp gEq (wOp gMod (wV 3) (wC (.int 2))) (wC (.int 0)))) (wSeq (wAug 3 gDiv (wC (.int 2)))
    (wAug 4 gIadd (wC (.int 1)))))
    (wSeq (wPar 5 6 (wCons (wC (.int 1)) (wCons (wOp gMod (wC (.int 2)) (wV 3)) wNil)))
    (wSeq (wWh (wB (wOp gNe (wV 6) (wC (.int 1)))) (wSeq (wSet 6 (wOp gMod (wOp gMul (wV 6) (wC (.int 2))) (wV 3)))
    (wAug 5 gIadd (wC (.int 1)))))
    (wRet (wTup (wCons (wV 4) (wCons (wV 5) wNil))))))))))))))
theorem pure_tail_and_ring : Pure 7 1 sp_tail_and_ring w_tail_and_ring := by
  rintro ds A B - ⟨w, x, rfl, o, hB, hA⟩
  have hle := o.le
  have hpos := o.pos
  obtain ⟨hq, hg⟩ := quot_pos o
  have ql : w / Nat.gcd x (w - x) ≤ w := Nat.div_le_self _ _
  simp only [w_tail_and_ring, bl?, g2, gAdd, gDiv, gEq, gGe, gGt, gI, gIn, gInt, gIs, gIsNot, gLe, gLen, gList, gLt, gMM, gMod, gMul, gMulS, gNe, gNotIn, gPow, gSorted, gSub, gIadd, gSum, gTuple, puts, sV, sVs, slotM, wAnd, wApp, wAsg, wAug, wAugI, wB, wC, wCall, wCallR, wChain, wCons, wDraw, wDrop, wEnL, wEnT, wExt, wFn, wFnO, wFor, wGCons, wGNil, wGT, wIL, wIT, wIdx, wIf, wIfS, wIsi, wIx, wLc, wLst, wMNil, wMO, wMV, wMix, wN, wNeg, wNil, wNot, wNotT, wO, wOp, wOr, wOwn, wPar, wR1, wR2, wRaise, wRaiseF, wRet, wSeq, wSet, wSetI, wSkip, wTAnd, wTNot, wTOr, wTru, wTry, wTryF, wTup, wV, wYes, wSplit, wJoin, wRstrip, wFmt, wJNil, wJCons, wJs, gStr, gIntS, wIS, gSignNotIn, wSl, wSlt, wPn, wPs, gMulT, wGL, wTryAs, wXf, wXis, wCat, wCatV, wIxV, wDGet, wDIn, wDInT, wDGet2, wDPut, wDisp1, wOwnD, wMD, wForD, wLcD, wFz, wMv, wMinD, gListD, fzS, wDK, wDT, wFldO, wFldS, wMeth, wProp, wLenO, wCallO, wMake, wNewOb, wNewObL, wMethC, gLenD, wDGetV, wPopS, wUpd, wLV, wLI, wForIt, wSortSet, wCallIx, gSortedT, wTabIx, wTree, wForChg, messSlot, wSortLam, wAsgO, startS, List.length_cons, List.length_nil, List.map_cons, List.map_nil, List.getElem?_cons_zero, List.getElem?_cons_succ, List.set_cons_zero, List.set_cons_succ, List.cons_append, List.nil_append, List.append_nil, List.replicate_succ, List.replicate_zero, Nat.reduceAdd, Nat.reduceSub, ↓reduceIte, Bool.false_eq_true, reduceCtorEq, true_and, and_true, true_or, or_true, false_or, or_false, Bool.not_true, Bool.not_false, Bool.true_and, Bool.false_and, Bool.and_true, decide_eq_true_eq, Bool.not_eq_eq_eq_not, exists_eq_left, exists_eq_left', Option.some.injEq]
  refine ⟨w, x, rfl, o, ?_⟩
  simp only [startS, List.length_cons, List.length_nil, List.map_cons, List.map_nil, List.getElem?_cons_zero, List.getElem?_cons_succ, List.set_cons_zero, List.set_cons_succ, List.cons_append, List.nil_append, List.append_nil, List.replicate_succ, List.replicate_zero, Nat.reduceAdd, Nat.reduceSub, ↓reduceIte, Bool.false_eq_true, reduceCtorEq, true_and, and_true, true_or, or_true, false_or, or_false, Bool.not_true, Bool.not_false, Bool.true_and, Bool.false_and, Bool.and_true, decide_eq_true_eq, Bool.not_eq_eq_eq_not, exists_eq_left, exists_eq_left', Option.some.injEq, eT, eH, at_p0, at_p1]
  refine ⟨_, ints?_map [(x : Int), ((w - x : Nat) : Int)], ?_⟩
  rw [sum_T hle]
  by_cases c : 1000000 < w
  · have c' : (1000000 : Int) < w := by omega
    simp only [c', decide_true, startS, List.length_cons, List.length_nil, List.map_cons, List.map_nil, List.getElem?_cons_zero, List.getElem?_cons_succ, List.set_cons_zero, List.set_cons_succ, List.cons_append, List.nil_append, List.append_nil, List.replicate_succ, List.replicate_zero, Nat.reduceAdd, Nat.reduceSub, ↓reduceIte, Bool.false_eq_true, reduceCtorEq, true_and, and_true, true_or, or_true, false_or, or_false, Bool.not_true, Bool.not_false, Bool.true_and, Bool.false_and, Bool.and_true, decide_eq_true_eq, Bool.not_eq_eq_eq_not, exists_eq_left, exists_eq_left', Option.some.injEq]
    exact hB c
  · have c' : ¬ (1000000 : Int) < w := by omega
    obtain ⟨hE, hR⟩ := hA (by omega)
    simp only [c', decide_false, startS, List.length_cons, List.length_nil, List.map_cons, List.map_nil, List.getElem?_cons_zero, List.getElem?_cons_succ, List.set_cons_zero, List.set_cons_succ, List.cons_append, List.nil_append, List.append_nil, List.replicate_succ, List.replicate_zero, Nat.reduceAdd, Nat.reduceSub, ↓reduceIte, Bool.false_eq_true, reduceCtorEq, true_and, and_true, true_or, or_true, false_or, or_false, Bool.not_true, Bool.not_false, Bool.true_and, Bool.false_and, Bool.and_true, decide_eq_true_eq, Bool.not_eq_eq_eq_not, exists_eq_left, exists_eq_left', Option.some.injEq]
    refine end_use o fun e he => ?_
    cases e with
    | some k =>
      simp only [eO, flat, bl?, g2, gAdd, gDiv, gEq, gGe, gGt, gI, gIn, gInt, gIs, gIsNot, gLe, gLen, gList, gLt, gMM, gMod, gMul, gMulS, gNe, gNotIn, gPow, gSorted, gSub, gIadd, gSum, gTuple, puts, sV, sVs, slotM, wAnd, wApp, wAsg, wAug, wAugI, wB, wC, wCall, wCallR, wChain, wCons, wDraw, wDrop, wEnL, wEnT, wExt, wFn, wFnO, wFor, wGCons, wGNil, wGT, wIL, wIT, wIdx, wIf, wIfS, wIsi, wIx, wLc, wLst, wMNil, wMO, wMV, wMix, wN, wNeg, wNil, wNot, wNotT, wO, wOp, wOr, wOwn, wPar, wR1, wR2, wRaise, wRaiseF, wRet, wSeq, wSet, wSetI, wSkip, wTAnd, wTNot, wTOr, wTru, wTry, wTryF, wTup, wV, wYes, wSplit, wJoin, wRstrip, wFmt, wJNil, wJCons, wJs, gStr, gIntS, wIS, gSignNotIn, wSl, wSlt, wPn, wPs, gMulT, wGL, wTryAs, wXf, wXis, wCat, wCatV, wIxV, wDGet, wDIn, wDInT, wDGet2, wDPut, wDisp1, wOwnD, wMD, wForD, wLcD, wFz, wMv, wMinD, gListD, fzS, wDK, wDT, wFldO, wFldS, wMeth, wProp, wLenO, wCallO, wMake, wNewOb, wNewObL, wMethC, gLenD, wDGetV, wPopS, wUpd, wLV, wLI, wForIt, wSortSet, wCallIx, gSortedT, wTabIx, wTree, wForChg, messSlot, wSortLam, wAsgO, startS, List.length_cons, List.length_nil, List.map_cons, List.map_nil, List.getElem?_cons_zero, List.getElem?_cons_succ, List.set_cons_zero, List.set_cons_succ, List.cons_append, List.nil_append, List.append_nil, List.replicate_succ, List.replicate_zero, Nat.reduceAdd, Nat.reduceSub, ↓reduceIte, Bool.false_eq_true, reduceCtorEq, true_and, and_true, true_or, or_true, false_or, or_false, Bool.not_true, Bool.not_false, Bool.true_and, Bool.false_and, Bool.and_true, decide_eq_true_eq, Bool.not_eq_eq_eq_not, exists_eq_left, exists_eq_left', Option.some.injEq]
      exact ⟨by decide, hE k he⟩
    | none =>
      have hgl : Nat.gcd x (w - x) ≤ w := by
        have q := Nat.dvd_add (Nat.gcd_dvd_left x (w - x)) (Nat.gcd_dvd_right x (w - x))
        have := Nat.le_of_dvd (by omega) q
        omega
      simp only [eO, flat, bl?, g2, gAdd, gDiv, gEq, gGe, gGt, gI, gIn, gInt, gIs, gIsNot, gLe, gLen, gList, gLt, gMM, gMod, gMul, gMulS, gNe, gNotIn, gPow, gSorted, gSub, gIadd, gSum, gTuple, puts, sV, sVs, slotM, wAnd, wApp, wAsg, wAug, wAugI, wB, wC, wCall, wCallR, wChain, wCons, wDraw, wDrop, wEnL, wEnT, wExt, wFn, wFnO, wFor, wGCons, wGNil, wGT, wIL, wIT, wIdx, wIf, wIfS, wIsi, wIx, wLc, wLst, wMNil, wMO, wMV, wMix, wN, wNeg, wNil, wNot, wNotT, wO, wOp, wOr, wOwn, wPar, wR1, wR2, wRaise, wRaiseF, wRet, wSeq, wSet, wSetI, wSkip, wTAnd, wTNot, wTOr, wTru, wTry, wTryF, wTup, wV, wYes, wSplit, wJoin, wRstrip, wFmt, wJNil, wJCons, wJs, gStr, gIntS, wIS, gSignNotIn, wSl, wSlt, wPn, wPs, gMulT, wGL, wTryAs, wXf, wXis, wCat, wCatV, wIxV, wDGet, wDIn, wDInT, wDGet2, wDPut, wDisp1, wOwnD, wMD, wForD, wLcD, wFz, wMv, wMinD, gListD, fzS, wDK, wDT, wFldO, wFldS, wMeth, wProp, wLenO, wCallO, wMake, wNewOb, wNewObL, wMethC, gLenD, wDGetV, wPopS, wUpd, wLV, wLI, wForIt, wSortSet, wCallIx, gSortedT, wTabIx, wTree, wForChg, messSlot, wSortLam, wAsgO, startS, List.length_cons, List.length_nil, List.map_cons, List.map_nil, List.getElem?_cons_zero, List.getElem?_cons_succ, List.set_cons_zero, List.set_cons_succ, List.cons_append, List.nil_append, List.append_nil, List.replicate_succ, List.replicate_zero, Nat.reduceAdd, Nat.reduceSub, ↓reduceIte, Bool.false_eq_true, reduceCtorEq, true_and, and_true, true_or, or_true, false_or, or_false, Bool.not_true, Bool.not_false, Bool.true_and, Bool.false_and, Bool.and_true, decide_eq_true_eq, Bool.not_eq_eq_eq_not, exists_eq_left, exists_eq_left', Option.some.injEq]
      refine common_use ?_
      simp only [startS, List.length_cons, List.length_nil, List.map_cons, List.map_nil, List.getElem?_cons_zero, List.getElem?_cons_succ, List.set_cons_zero, List.set_cons_succ, List.cons_append, List.nil_append, List.append_nil, List.replicate_succ, List.replicate_zero, Nat.reduceAdd, Nat.reduceSub, ↓reduceIte, Bool.false_eq_true, reduceCtorEq, true_and, and_true, true_or, or_true, false_or, or_false, Bool.not_true, Bool.not_false, Bool.true_and, Bool.false_and, Bool.and_true, decide_eq_true_eq, Bool.not_eq_eq_eq_not, exists_eq_left, exists_eq_left', Option.some.injEq, div_nat, flat]
      refine ⟨divc_nat hg (by omega), ?_⟩
      have hR' : ∀ l f r : Nat, w / Nat.gcd x (w - x) = l * 2 ^ f → l % 2 = 1 → Nt.IsRing l r → A (.tuple [.int (f : Int), .int (r : Int)]) ∧ l ≠ 1 := fun l f r h1 h2 h3 => by
        have hl : l ≠ 1 := fun z => by
          have q := end_is o h1 h2
          rw [if_pos z] at q
          exact he f q.1
        exact ⟨hR f r ⟨l, h1, h2, hl, h3⟩, hl⟩
      generalize w / Nat.gcd x (w - x) = n at hR' hq ql
      refine ⟨n + 1, wh_ok (fun (s : Nat × Nat) S => ∃ s0 s1 s2 s5 s6, S = [s0, s1, s2, .im (.int (s.1 : Int)), .im (.int (s.2 : Int)), s5, s6] ∧ 1 ≤ s.1 ∧ n = s.1 * 2 ^ s.2) (fun s => s.1) ?_ (n + 1) (n, 0) _ (Nat.lt_succ_self n) ⟨_, _, _, _, _, rfl, hq, by rw [Nat.pow_zero, Nat.mul_one]⟩⟩
      rintro ⟨y, f⟩ S ⟨s0, s1, s2, s5, s6, rfl, hy, hn⟩ Nx hN
      have hy : 1 ≤ y := hy
      have hn : n = y * 2 ^ f := hn
      have e3 : ((y : Int).fmod 2) = ((y % 2 : Nat) : Int) := fmod_nat y 2
      have e4 : ((y : Int) / 2) = ((y / 2 : Nat) : Int) := rfl
      have d2 : CDivW (y : Int) 2 := ⟨by decide, by decide⟩
      simp only [bl?, g2, gAdd, gDiv, gEq, gGe, gGt, gI, gIn, gInt, gIs, gIsNot, gLe, gLen, gList, gLt, gMM, gMod, gMul, gMulS, gNe, gNotIn, gPow, gSorted, gSub, gIadd, gSum, gTuple, puts, sV, sVs, slotM, wAnd, wApp, wAsg, wAug, wAugI, wB, wC, wCall, wCallR, wChain, wCons, wDraw, wDrop, wEnL, wEnT, wExt, wFn, wFnO, wFor, wGCons, wGNil, wGT, wIL, wIT, wIdx, wIf, wIfS, wIsi, wIx, wLc, wLst, wMNil, wMO, wMV, wMix, wN, wNeg, wNil, wNot, wNotT, wO, wOp, wOr, wOwn, wPar, wR1, wR2, wRaise, wRaiseF, wRet, wSeq, wSet, wSetI, wSkip, wTAnd, wTNot, wTOr, wTru, wTry, wTryF, wTup, wV, wYes, wSplit, wJoin, wRstrip, wFmt, wJNil, wJCons, wJs, gStr, gIntS, wIS, gSignNotIn, wSl, wSlt, wPn, wPs, gMulT, wGL, wTryAs, wXf, wXis, wCat, wCatV, wIxV, wDGet, wDIn, wDInT, wDGet2, wDPut, wDisp1, wOwnD, wMD, wForD, wLcD, wFz, wMv, wMinD, gListD, fzS, wDK, wDT, wFldO, wFldS, wMeth, wProp, wLenO, wCallO, wMake, wNewOb, wNewObL, wMethC, gLenD, wDGetV, wPopS, wUpd, wLV, wLI, wForIt, wSortSet, wCallIx, gSortedT, wTabIx, wTree, wForChg, messSlot, wSortLam, wAsgO, startS, List.length_cons, List.length_nil, List.map_cons, List.map_nil, List.getElem?_cons_zero, List.getElem?_cons_succ, List.set_cons_zero, List.set_cons_succ, List.cons_append, List.nil_append, List.append_nil, List.replicate_succ, List.replicate_zero, Nat.reduceAdd, Nat.reduceSub, ↓reduceIte, Bool.false_eq_true, reduceCtorEq, true_and, and_true, true_or, or_true, false_or, or_false, Bool.not_true, Bool.not_false, Bool.true_and, Bool.false_and, Bool.and_true, decide_eq_true_eq, Bool.not_eq_eq_eq_not, exists_eq_left, exists_eq_left', Option.some.injEq, e3, e4, shaped_int, eqv_int, flat]
      by_cases c : y % 2 = 0
      · have c' : (((y % 2 : Nat) : Int) = 0) := by omega
        simp only [c', decide_true, startS, List.length_cons, List.length_nil, List.map_cons, List.map_nil, List.getElem?_cons_zero, List.getElem?_cons_succ, List.set_cons_zero, List.set_cons_succ, List.cons_append, List.nil_append, List.append_nil, List.replicate_succ, List.replicate_zero, Nat.reduceAdd, Nat.reduceSub, ↓reduceIte, Bool.false_eq_true, reduceCtorEq, true_and, and_true, true_or, or_true, false_or, or_false, Bool.not_true, Bool.not_false, Bool.true_and, Bool.false_and, Bool.and_true, decide_eq_true_eq, Bool.not_eq_eq_eq_not, exists_eq_left, exists_eq_left', Option.some.injEq]
        refine ⟨by decide, d2, hN (y / 2, f + 1) _ (by show y / 2 < y; omega) ⟨s0, s1, s2, s5, s6, rfl, by show 1 ≤ y / 2; omega, ?_⟩⟩
        show n = y / 2 * 2 ^ (f + 1)
        rw [hn, Nat.pow_succ, Nat.mul_comm (2 ^ f) 2, ← Nat.mul_assoc]
        congr 1
        omega
      · have c' : ¬ (((y % 2 : Nat) : Int) = 0) := by omega
        have ho : y % 2 = 1 := by omega
        obtain ⟨R, hRing⟩ := Nt.ring_ex ho
        obtain ⟨hA', hl1⟩ := hR' y f R hn ho hRing
        have y2 : 2 ≤ y := by omega
        have yl : y ≤ n := by rw [hn]; exact Nat.le_mul_of_pos_right y (Nat.two_pow_pos f)
        have e5 : ((2 : Int).fmod y) = ((2 % y : Nat) : Int) := fmod_nat 2 y
        have ny : (y : Int) ≠ 0 := by omega
        simp only [c', decide_false, startS, List.length_cons, List.length_nil, List.map_cons, List.map_nil, List.getElem?_cons_zero, List.getElem?_cons_succ, List.set_cons_zero, List.set_cons_succ, List.cons_append, List.nil_append, List.append_nil, List.replicate_succ, List.replicate_zero, Nat.reduceAdd, Nat.reduceSub, ↓reduceIte, Bool.false_eq_true, reduceCtorEq, true_and, and_true, true_or, or_true, false_or, or_false, Bool.not_true, Bool.not_false, Bool.true_and, Bool.false_and, Bool.and_true, decide_eq_true_eq, Bool.not_eq_eq_eq_not, exists_eq_left, exists_eq_left', Option.some.injEq, e5, flats, flat, Bool.and_self]
        refine ⟨by decide, ny, ?_⟩
        refine ⟨R + 1, wh_ok (fun (s : Nat) S => ∃ s0 s1 s2, S = [s0, s1, s2, .im (.int (y : Int)), .im (.int (f : Int)), .im (.int (s : Int)), .im (.int ((2 ^ s % y : Nat) : Int))] ∧ 1 ≤ s ∧ s ≤ R ∧ ∀ d, 1 ≤ d → d < s → 2 ^ d % y ≠ 1) (fun s => R - s) ?_ (R + 1) 1 _ (by omega) ⟨_, _, _, rfl, Nat.le_refl 1, hRing.pos, fun d d1 d2 => by omega⟩⟩
        rintro s S ⟨s0, s1, s2, rfl, h1, h2, h3⟩ Nx hN
        have hlt : 2 ^ s % y < y := Nat.mod_lt _ (by omega)
        have e6 : (((2 ^ s % y : Nat) : Int) * 2).fmod y = ((2 ^ (s + 1) % y : Nat) : Int) := by
          have z : (((2 ^ s % y : Nat) : Int) * 2) = ((2 ^ s % y * 2 : Nat) : Int) := by rw [Int.natCast_mul]; rfl
          rw [z, fmod_nat, Nat.pow_succ, Nat.mod_mul_mod]
        simp only [bl?, g2, gAdd, gDiv, gEq, gGe, gGt, gI, gIn, gInt, gIs, gIsNot, gLe, gLen, gList, gLt, gMM, gMod, gMul, gMulS, gNe, gNotIn, gPow, gSorted, gSub, gIadd, gSum, gTuple, puts, sV, sVs, slotM, wAnd, wApp, wAsg, wAug, wAugI, wB, wC, wCall, wCallR, wChain, wCons, wDraw, wDrop, wEnL, wEnT, wExt, wFn, wFnO, wFor, wGCons, wGNil, wGT, wIL, wIT, wIdx, wIf, wIfS, wIsi, wIx, wLc, wLst, wMNil, wMO, wMV, wMix, wN, wNeg, wNil, wNot, wNotT, wO, wOp, wOr, wOwn, wPar, wR1, wR2, wRaise, wRaiseF, wRet, wSeq, wSet, wSetI, wSkip, wTAnd, wTNot, wTOr, wTru, wTry, wTryF, wTup, wV, wYes, wSplit, wJoin, wRstrip, wFmt, wJNil, wJCons, wJs, gStr, gIntS, wIS, gSignNotIn, wSl, wSlt, wPn, wPs, gMulT, wGL, wTryAs, wXf, wXis, wCat, wCatV, wIxV, wDGet, wDIn, wDInT, wDGet2, wDPut, wDisp1, wOwnD, wMD, wForD, wLcD, wFz, wMv, wMinD, gListD, fzS, wDK, wDT, wFldO, wFldS, wMeth, wProp, wLenO, wCallO, wMake, wNewOb, wNewObL, wMethC, gLenD, wDGetV, wPopS, wUpd, wLV, wLI, wForIt, wSortSet, wCallIx, gSortedT, wTabIx, wTree, wForChg, messSlot, wSortLam, wAsgO, startS, List.length_cons, List.length_nil, List.map_cons, List.map_nil, List.getElem?_cons_zero, List.getElem?_cons_succ, List.set_cons_zero, List.set_cons_succ, List.cons_append, List.nil_append, List.append_nil, List.replicate_succ, List.replicate_zero, Nat.reduceAdd, Nat.reduceSub, ↓reduceIte, Bool.false_eq_true, reduceCtorEq, true_and, and_true, true_or, or_true, false_or, or_false, Bool.not_true, Bool.not_false, Bool.true_and, Bool.false_and, Bool.and_true, decide_eq_true_eq, Bool.not_eq_eq_eq_not, exists_eq_left, exists_eq_left', Option.some.injEq, shaped_int, eqv_int, e6, flat]
        by_cases c1 : 2 ^ s % y = 1
        · have c2 : (((2 ^ s % y : Nat) : Int) = 1) := by omega
          have es : s = R := by
            rcases Nat.lt_or_ge s R with z | z
            · exact absurd ((Nt.one_iff y2).mp c1) (hRing.least s h1 z)
            · omega
          subst es
          simp only [c2, decide_true, startS, List.length_cons, List.length_nil, List.map_cons, List.map_nil, List.getElem?_cons_zero, List.getElem?_cons_succ, List.set_cons_zero, List.set_cons_succ, List.cons_append, List.nil_append, List.append_nil, List.replicate_succ, List.replicate_zero, Nat.reduceAdd, Nat.reduceSub, ↓reduceIte, Bool.false_eq_true, reduceCtorEq, true_and, and_true, true_or, or_true, false_or, or_false, Bool.not_true, Bool.not_false, Bool.true_and, Bool.false_and, Bool.and_true, decide_eq_true_eq, Bool.not_eq_eq_eq_not, exists_eq_left, exists_eq_left', Option.some.injEq]
          exact ⟨by decide, hA'⟩
        · have c2 : ¬ (((2 ^ s % y : Nat) : Int) = 1) := by omega
          have sR : s < R := by
            rcases Nat.lt_or_ge s R with z | z
            · exact z
            · have e : s = R := by omega
              exact absurd ((Nt.one_iff y2).mpr (e ▸ hRing.dv)) c1
          simp only [c2, decide_false, startS, List.length_cons, List.length_nil, List.map_cons, List.map_nil, List.getElem?_cons_zero, List.getElem?_cons_succ, List.set_cons_zero, List.set_cons_succ, List.cons_append, List.nil_append, List.append_nil, List.replicate_succ, List.replicate_zero, Nat.reduceAdd, Nat.reduceSub, ↓reduceIte, Bool.false_eq_true, reduceCtorEq, true_and, and_true, true_or, or_true, false_or, or_false, Bool.not_true, Bool.not_false, Bool.true_and, Bool.false_and, Bool.and_true, decide_eq_true_eq, Bool.not_eq_eq_eq_not, exists_eq_left, exists_eq_left', Option.some.injEq]
          refine ⟨mul_nat (y := 2) (by omega) (by decide), ny, hN (s + 1) _ (by show R - (s + 1) < R - s; omega) ⟨s0, s1, s2, rfl, by omega, by omega, fun d d1 d2 => ?_⟩⟩
          rcases Nat.lt_or_ge d s with z | z
          · exact h3 d d1 z
          · have e : d = s := by omega
            rw [e]
            exact c1
end Pu


namespace Pu
open PySem L2
/-! ### steps in a row; the round of three heaps -/
theorem gt_set (l : List Int) (i k : Nat) (x : Int) (hi : i < l.length) : gt (l.set i x) k = if k = i then x else gt l k := by
  unfold gt
  rw [List.getD_eq_getElem?_getD, List.getD_eq_getElem?_getD, List.getElem?_set]
  by_cases c : i = k
  · rw [if_pos c, if_pos c.symm, if_pos hi]; rfl
  · rw [if_neg c, if_neg (fun z => c z.symm)]
theorem gt_beh {h : List Int} {s : Nat × Nat} (o : okS h.length s) (k : Nat) : gt (beh h s) k = if k = s.2 then gt h s.2 + gt h s.2 else if k = s.1 then gt h s.1 - gt h s.2 else gt h k := by
  obtain ⟨h1, h2, h3⟩ := o
  unfold beh
  have e1 : gt (h.set s.1 (gt h s.1 - gt h s.2)) s.2 = gt h s.2 := by rw [gt_set _ _ _ _ h1, if_neg (fun z => h3 z.symm)]
  rw [gt_set _ _ _ _ (by rw [List.length_set]; exact h2), e1, gt_set _ _ _ _ h1]
theorem sum_set : ∀ (l : List Int) (i : Nat) (x : Int), i < l.length → (l.set i x).sum = l.sum - gt l i + x
  | y :: l, 0, x, _ => by
    show x + l.sum = y + l.sum - y + x
    omega
  | y :: l, i + 1, x, h => by
    have ih := sum_set l i x (by rw [List.length_cons] at h; omega)
    have e : gt (y :: l) (i + 1) = gt l i := rfl
    show y + (l.set i x).sum = y + l.sum - gt (y :: l) (i + 1) + x
    rw [ih, e]
    omega
theorem sum_beh {h : List Int} {s : Nat × Nat} (o : okS h.length s) : (beh h s).sum = h.sum := by
  obtain ⟨h1, h2, h3⟩ := o
  unfold beh
  rw [sum_set _ _ _ (by rw [List.length_set]; exact h2), sum_set _ _ _ h1]
  omega
def runs : List Int → List (Nat × Nat) → List Int → Prop
  | h, [], g => g = h
  | h, s :: p, g => okS h.length s ∧ can h s = true ∧ runs (beh h s) p g
theorem runs_app : ∀ {p q : List (Nat × Nat)} {h g k : List Int}, runs h p g → runs g q k → runs h (p ++ q) k
  | [], q, h, g, k, h1, h2 => by
    have h1 : g = h := h1
    rw [← h1]; exact h2
  | s :: p, q, h, g, k, ⟨a, b, c⟩, h2 => ⟨a, b, runs_app c h2⟩
theorem runs_len : ∀ {p : List (Nat × Nat)} {h g : List Int}, runs h p g → g.length = h.length
  | [], h, g, e => by have e : g = h := e; rw [e]
  | s :: p, h, g, ⟨_, _, c⟩ => by rw [runs_len c, beh_len]
theorem runs_sum : ∀ {p : List (Nat × Nat)} {h g : List Int}, runs h p g → g.sum = h.sum
  | [], h, g, e => by have e : g = h := e; rw [e]
  | s :: p, h, g, ⟨a, _, c⟩ => by rw [runs_sum c, sum_beh a]
def NN (h : List Int) : Prop := ∀ i, 0 ≤ gt h i
theorem can_iff {h : List Int} {s : Nat × Nat} : can h s = true ↔ 0 < gt h s.2 ∧ gt h s.2 ≤ gt h s.1 := by
  unfold can
  rw [Bool.and_eq_true, decide_eq_true_eq, decide_eq_true_eq]
theorem runs_nn : ∀ {p : List (Nat × Nat)} {h g : List Int}, runs h p g → NN h → NN g
  | [], h, g, e, n => by have e : g = h := e; rw [e]; exact n
  | s :: p, h, g, ⟨a, b, c⟩, n => runs_nn c fun i => by
    have b := can_iff.mp b
    have := n i
    rw [gt_beh a]
    split
    · omega
    · split <;> omega
theorem runs_okP : ∀ {p : List (Nat × Nat)} {h g : List Int}, runs h p g → OkP h.length p
  | [], h, g, e => fun s hs => by cases hs
  | s :: p, h, g, ⟨a, b, c⟩ => fun x hx => by
    rcases List.mem_cons.mp hx with z | z
    · rw [z]; exact a
    · have := runs_okP c x z
      rw [beh_len] at this
      exact this
theorem runs_one {h : List Int} {s : Nat × Nat} (o : okS h.length s) (c : can h s = true) : runs h [s] (beh h s) := ⟨o, c, rfl⟩
theorem nn_of {h : List Int} (o : ∀ x ∈ h, 0 ≤ x) : NN h := fun i => by
  unfold gt
  rw [List.getD_eq_getElem?_getD]
  cases e : h[i]? with
  | none => exact Int.le_refl 0
  | some x => exact o x (List.mem_of_getElem? e)
theorem gt_le_sum : ∀ {h : List Int}, NN h → (0 ≤ h.sum) ∧ ∀ i, gt h i ≤ h.sum
  | [], _ => ⟨Int.le_refl _, fun i => Int.le_refl _⟩
  | x :: h, n => by
    obtain ⟨a, b⟩ := gt_le_sum (h := h) fun i => n (i + 1)
    have x0 : 0 ≤ x := n 0
    have e : (x :: h).sum = x + h.sum := rfl
    refine ⟨by omega, fun i => ?_⟩
    cases i with
    | zero => show x ≤ _; omega
    | succ i => have := b i; show gt h i ≤ _; omega
theorem gt_mem {h : List Int} {i : Nat} (hi : i < h.length) : gt h i ∈ h := by
  unfold gt
  rw [List.getD_eq_getElem?_getD, List.getElem?_eq_getElem hi]
  exact List.getElem_mem hi
def rnd (a b c : Nat) : Nat → Nat → List (Nat × Nat)
  | 0, _ => []
  | k + 1, left => (if left % 2 = 1 then b else c, a) :: rnd a b c k (left / 2)
theorem rnd_len (a b c : Nat) : ∀ k left, (rnd a b c k left).length = k
  | 0, _ => rfl
  | k + 1, left => by show (rnd a b c k (left / 2)).length + 1 = _; rw [rnd_len]
theorem rnd_snoc (a b c : Nat) : ∀ k left, rnd a b c (k + 1) left = rnd a b c k left ++ [(if left / 2 ^ k % 2 = 1 then b else c, a)]
  | 0, left => by simp [rnd]
  | k + 1, left => by
    have ih := rnd_snoc a b c k (left / 2)
    show (if left % 2 = 1 then b else c, a) :: rnd a b c (k + 1) (left / 2) = _
    rw [ih, Nat.div_div_eq_div_mul, ← Nat.pow_succ']
    rfl
structure Three (h : List Int) (a b c : Nat) : Prop where
  la : a < h.length
  lb : b < h.length
  lc : c < h.length
  ab : a ≠ b
  ac : a ≠ c
  bc : b ≠ c
theorem rnd_runs {a b c : Nat} : ∀ (k left : Nat) (h : List Int), Three h a b c → 0 < gt h a → gt h a * ((left % 2 ^ k : Nat) : Int) ≤ gt h b → gt h a * ((2 ^ k - 1 - left % 2 ^ k : Nat) : Int) ≤ gt h c →
    ∃ g, runs h (rnd a b c k left) g ∧ gt g a = gt h a * ((2 ^ k : Nat) : Int) ∧ gt g b = gt h b - gt h a * ((left % 2 ^ k : Nat) : Int) ∧ ∀ i, i ≠ a → i ≠ b → i ≠ c → gt g i = gt h i
  | 0, left, h, t, h0, h1, h2 => ⟨h, rfl, by simp, by simp [Nat.mod_one], fun _ _ _ _ => rfl⟩
  | k + 1, left, h, t, h0, h1, h2 => by
    have em : left % 2 ^ (k + 1) = 2 * (left / 2 % 2 ^ k) + left % 2 := by
      rw [Nat.pow_succ', Nat.mod_mul]
      omega
    have lt : left / 2 % 2 ^ k < 2 ^ k := Nat.mod_lt _ (Nat.two_pow_pos k)
    have e2 : 2 ^ (k + 1) = 2 * 2 ^ k := Nat.pow_succ'
    rw [em] at h1 h2
    rw [e2] at h2
    rw [em, e2]
    have ih := rnd_runs (a := a) (b := b) (c := c) k (left / 2)
    generalize left / 2 % 2 ^ k = u at *
    generalize 2 ^ k = q at *
    have eB : gt h a * ((2 * u + left % 2 : Nat) : Int) = (gt h a + gt h a) * (u : Int) + gt h a * ((left % 2 : Nat) : Int) := by
      rw [Int.natCast_add, Int.natCast_mul, Int.mul_add, ← Int.mul_assoc, Int.mul_comm (gt h a) ((2 : Nat) : Int)]
      congr 2
      show 2 * gt h a = _
      omega
    have eA : (gt h a + gt h a) * (q : Int) = gt h a * ((2 * q : Nat) : Int) := by
      rw [Int.natCast_mul, ← Int.mul_assoc, Int.mul_comm (gt h a) ((2 : Nat) : Int)]
      congr 1
      show _ = 2 * gt h a
      omega
    by_cases o : left % 2 = 1
    · have er : rnd a b c (k + 1) left = (b, a) :: rnd a b c k (left / 2) := by
        show (if left % 2 = 1 then b else c, a) :: _ = _
        rw [if_pos o]
      rw [o] at eB h1 h2 ⊢
      rw [show gt h a * ((1 : Nat) : Int) = gt h a from by rw [Int.natCast_one, Int.mul_one]] at eB
      have pu : 0 ≤ (gt h a + gt h a) * (u : Int) := Int.mul_nonneg (by omega) (Int.natCast_nonneg u)
      have ec : gt h a * ((2 * q - 1 - (2 * u + 1) : Nat) : Int) = (gt h a + gt h a) * ((q - 1 - u : Nat) : Int) := by
        have : 2 * q - 1 - (2 * u + 1) = 2 * (q - 1 - u) := by omega
        rw [this, Int.natCast_mul, ← Int.mul_assoc, Int.mul_comm (gt h a) ((2 : Nat) : Int)]
        congr 1
        show 2 * gt h a = _
        omega
      have ok : okS h.length (b, a) := ⟨t.lb, t.la, fun z => t.ab z.symm⟩
      have cn : can h (b, a) = true := can_iff.mpr ⟨h0, by show gt h a ≤ gt h b; omega⟩
      have ga : gt (beh h (b, a)) a = gt h a + gt h a := by rw [gt_beh ok, if_pos rfl]
      have gb : gt (beh h (b, a)) b = gt h b - gt h a := by rw [gt_beh ok, if_neg (fun z => t.ab z.symm), if_pos rfl]
      have gc : gt (beh h (b, a)) c = gt h c := by rw [gt_beh ok, if_neg (fun z => t.ac z.symm), if_neg (fun z => t.bc z.symm)]
      obtain ⟨g, r1, r2, r3, r4⟩ := ih (beh h (b, a)) ⟨by rw [beh_len]; exact t.la, by rw [beh_len]; exact t.lb, by rw [beh_len]; exact t.lc, t.ab, t.ac, t.bc⟩ (by rw [ga]; omega) (by rw [ga, gb]; omega) (by rw [ga, gc]; omega)
      refine ⟨g, ?_, ?_, ?_, fun i h1 h2 h3 => ?_⟩
      · rw [er]; exact ⟨ok, cn, r1⟩
      · rw [r2, ga]; exact eA
      · rw [r3, ga, gb, eB]; omega
      · rw [r4 i h1 h2 h3, gt_beh ok, if_neg h1, if_neg h2]
    · have er : rnd a b c (k + 1) left = (c, a) :: rnd a b c k (left / 2) := by
        show (if left % 2 = 1 then b else c, a) :: _ = _
        rw [if_neg o]
      have o : left % 2 = 0 := by omega
      rw [o] at eB h1 h2 ⊢
      rw [show gt h a * ((0 : Nat) : Int) = 0 from by rw [Int.natCast_zero, Int.mul_zero]] at eB
      have ec : gt h a * ((2 * q - 1 - (2 * u + 0) : Nat) : Int) = (gt h a + gt h a) * ((q - 1 - u : Nat) : Int) + gt h a := by
        have : 2 * q - 1 - (2 * u + 0) = 2 * (q - 1 - u) + 1 := by omega
        rw [this, Int.natCast_add, Int.mul_add, Int.natCast_mul, ← Int.mul_assoc, Int.mul_comm (gt h a) ((2 : Nat) : Int), Int.natCast_one, Int.mul_one]
        congr 2
        show 2 * gt h a = _
        omega
      have pu : 0 ≤ (gt h a + gt h a) * ((q - 1 - u : Nat) : Int) := Int.mul_nonneg (by omega) (Int.natCast_nonneg _)
      have ok : okS h.length (c, a) := ⟨t.lc, t.la, fun z => t.ac z.symm⟩
      have cn : can h (c, a) = true := can_iff.mpr ⟨h0, by show gt h a ≤ gt h c; omega⟩
      have ga : gt (beh h (c, a)) a = gt h a + gt h a := by rw [gt_beh ok, if_pos rfl]
      have gb : gt (beh h (c, a)) b = gt h b := by rw [gt_beh ok, if_neg (fun z => t.ab z.symm), if_neg t.bc]
      have gc : gt (beh h (c, a)) c = gt h c - gt h a := by rw [gt_beh ok, if_neg (fun z => t.ac z.symm), if_pos rfl]
      obtain ⟨g, r1, r2, r3, r4⟩ := ih (beh h (c, a)) ⟨by rw [beh_len]; exact t.la, by rw [beh_len]; exact t.lb, by rw [beh_len]; exact t.lc, t.ab, t.ac, t.bc⟩ (by rw [ga]; omega) (by rw [ga, gb]; omega) (by rw [ga, gc]; omega)
      refine ⟨g, ?_, ?_, ?_, fun i h1 h2 h3 => ?_⟩
      · rw [er]; exact ⟨ok, cn, r1⟩
      · rw [r2, ga]; exact eA
      · rw [r3, ga, gb, eB]; omega
      · rw [r4 i h1 h2 h3, gt_beh ok, if_neg h1, if_neg h3]
/-- the round's steps: K + 1 figures of near, the last replaced where near is too great -/
def rndP (h : List Int) (a b c near K : Nat) : List (Nat × Nat) := rnd a b c K near ++ [if (near : Int) * gt h a > gt h b then (a, b) else (b, a)]
theorem round_runs {h : List Int} {a b c near K : Nat} (t : Three h a b c) (h0 : 0 < gt h a) (h1 : gt h a ≤ gt h b) (h2 : gt h b ≤ gt h c) (n1 : (near : Int) * (2 * gt h a) ≤ 2 * gt h b + gt h a) (n2 : 2 * gt h b + gt h a < ((near : Int) + 1) * (2 * gt h a)) (k1 : 2 ^ K ≤ near) (k2 : near < 2 ^ (K + 1)) :
    ∃ g, runs h (rndP h a b c near K) g ∧ ((2 * gt g a ≤ gt h a) ∨ (2 * gt g b ≤ gt h a)) ∧ ∀ i, i ≠ a → i ≠ b → i ≠ c → gt g i = gt h i := by
  have e2 : 2 ^ (K + 1) = 2 * 2 ^ K := Nat.pow_succ'
  have qp : 0 < 2 ^ K := Nat.two_pow_pos K
  have em : near % 2 ^ K = near - 2 ^ K := by
    rw [Nat.mod_eq_sub_mod k1]
    exact Nat.mod_eq_of_lt (by omega)
  have ih := rnd_runs (a := a) (b := b) (c := c) K near h t h0
  rw [em] at ih
  rw [e2] at k2
  clear e2 em
  unfold rndP
  generalize rnd a b c K near = p at ih
  generalize 2 ^ K = q at *
  -- N = near * A, T = q * A
  have eN1 : (near : Int) * (2 * gt h a) = 2 * ((near : Int) * gt h a) := by rw [← Int.mul_assoc, Int.mul_comm (near : Int) 2, Int.mul_assoc]
  have eN2 : ((near : Int) + 1) * (2 * gt h a) = 2 * ((near : Int) * gt h a) + 2 * gt h a := by rw [Int.add_mul, eN1, Int.one_mul]
  have eNT : gt h a * ((near - q : Nat) : Int) = (near : Int) * gt h a - (q : Int) * gt h a := by
    rw [Int.natCast_sub k1, Int.mul_sub, Int.mul_comm, Int.mul_comm (gt h a) (q : Int)]
  have eT2 : gt h a * ((q - 1 - (near - q) : Nat) : Int) = 2 * ((q : Int) * gt h a) - gt h a - (near : Int) * gt h a := by
    have : ((q - 1 - (near - q) : Nat) : Int) = 2 * (q : Int) - 1 - near := by omega
    rw [this, Int.mul_sub, Int.mul_sub, Int.mul_one, Int.mul_comm (gt h a) (near : Int), ← Int.mul_assoc, Int.mul_comm (gt h a) 2, Int.mul_assoc, Int.mul_comm (gt h a) (q : Int)]
  have eTq : gt h a * (q : Int) = (q : Int) * gt h a := Int.mul_comm _ _
  have tA : gt h a ≤ (q : Int) * gt h a := by
    have := Int.mul_le_mul_of_nonneg_right (a := (1 : Int)) (b := (q : Int)) (c := gt h a) (by omega) (by omega)
    rw [Int.one_mul] at this
    exact this
  have tN : (q : Int) * gt h a ≤ (near : Int) * gt h a := Int.mul_le_mul_of_nonneg_right (by omega) (by omega)
  rw [eN1] at n1
  rw [eN2] at n2
  rw [eNT, eT2, eTq] at ih
  generalize (near : Int) * gt h a = N at *
  generalize (q : Int) * gt h a = T at *
  obtain ⟨g, r1, r2, r3, r4⟩ := ih (by omega) (by omega)
  have lg := runs_len r1
  by_cases c1 : N > gt h b
  · rw [if_pos c1]
    have ok : okS g.length (a, b) := ⟨by rw [lg]; exact t.la, by rw [lg]; exact t.lb, t.ab⟩
    have cn : can g (a, b) = true := can_iff.mpr ⟨by show 0 < gt g b; omega, by show gt g b ≤ gt g a; omega⟩
    refine ⟨beh g (a, b), runs_app r1 (runs_one ok cn), .inl ?_, fun i i1 i2 i3 => ?_⟩
    · rw [gt_beh ok, if_neg t.ab, if_pos rfl]
      show 2 * (gt g a - gt g b) ≤ _
      omega
    · rw [gt_beh ok, if_neg i2, if_neg i1, r4 i i1 i2 i3]
  · rw [if_neg c1]
    have ok : okS g.length (b, a) := ⟨by rw [lg]; exact t.lb, by rw [lg]; exact t.la, fun z => t.ab z.symm⟩
    have cn : can g (b, a) = true := can_iff.mpr ⟨by show 0 < gt g a; omega, by show gt g a ≤ gt g b; omega⟩
    refine ⟨beh g (b, a), runs_app r1 (runs_one ok cn), .inr ?_, fun i i1 i2 i3 => ?_⟩
    · rw [gt_beh ok, if_neg (fun z => t.ab z.symm), if_pos rfl]
      show 2 * (gt g b - gt g a) ≤ _
      omega
    · rw [gt_beh ok, if_neg i1, if_neg i2, r4 i i1 i2 i3]
theorem near_le {A B : Int} {near : Nat} (h0 : 0 < A) (h1 : A ≤ B) (n1 : (near : Int) * (2 * A) ≤ 2 * B + A) : (near : Int) ≤ B := by
  rcases Int.lt_or_le B near with c | c
  · have q : (B + 1) * (2 * A) ≤ (near : Int) * (2 * A) := Int.mul_le_mul_of_nonneg_right (by omega) (by omega)
    have e : (B + 1) * (2 * A) = 2 * (B * A) + 2 * A := by rw [Int.add_mul, Int.one_mul, ← Int.mul_assoc, Int.mul_comm B 2, Int.mul_assoc]
    have m : B * 1 ≤ B * A := Int.mul_le_mul_of_nonneg_left (by omega) (by omega)
    rw [Int.mul_one] at m
    omega
  · exact c
/-! ### how many heaps are full -/
def fullL (h : List Int) : List Nat := (List.range h.length).filter fun i => decide (0 < gt h i)
def full (h : List Int) : Nat := (fullL h).length
theorem cnt_lt {p q : Nat → Bool} {i : Nat} : ∀ (l : List Nat), (∀ x ∈ l, p x = true → q x = true) → i ∈ l → q i = true → p i = false → (l.filter p).length < (l.filter q).length
  | x :: l, h, hi, h1, h2 => by
    have mono : (l.filter p).length ≤ (l.filter q).length := by
      rw [← List.countP_eq_length_filter, ← List.countP_eq_length_filter]
      exact List.countP_mono_left fun y hy hp => h y (List.mem_cons_of_mem _ hy) hp
    rcases List.mem_cons.mp hi with z | z
    · subst z
      rw [List.filter_cons_of_neg (by rw [h2]; exact Bool.false_ne_true), List.filter_cons_of_pos h1, List.length_cons]
      omega
    · have ih := cnt_lt l (fun y hy => h y (List.mem_cons_of_mem _ hy)) z h1 h2
      cases c : p x with
      | true =>
        rw [List.filter_cons_of_pos c, List.filter_cons_of_pos (h x List.mem_cons_self c), List.length_cons, List.length_cons]
        omega
      | false =>
        rw [List.filter_cons_of_neg (by rw [c]; exact Bool.false_ne_true)]
        cases c2 : q x with
        | true => rw [List.filter_cons_of_pos c2, List.length_cons]; omega
        | false => rw [List.filter_cons_of_neg (by rw [c2]; exact Bool.false_ne_true)]; exact ih
theorem full_mono {h g : List Int} (l : g.length = h.length) (m : ∀ x, 0 < gt g x → 0 < gt h x) : full g ≤ full h := by
  unfold full fullL
  rw [l, ← List.countP_eq_length_filter, ← List.countP_eq_length_filter]
  exact List.countP_mono_left fun x hx hp => decide_eq_true (m x (of_decide_eq_true hp))
theorem full_lt {h g : List Int} {i : Nat} (l : g.length = h.length) (m : ∀ x, 0 < gt g x → 0 < gt h x) (hi : 0 < gt h i) (hl : i < h.length) (gi : gt g i = 0) : full g < full h := by
  unfold full fullL
  rw [l]
  exact cnt_lt _ (fun x hx hp => decide_eq_true (m x (of_decide_eq_true hp))) (List.mem_range.mpr hl) (decide_eq_true hi) (decide_eq_false (by omega))
theorem full_le (h : List Int) : full h ≤ h.length := by
  have := List.length_filter_le (fun i => decide (0 < gt h i)) (List.range h.length)
  rw [List.length_range] at this
  exact this
theorem mem_full {h : List Int} {i : Nat} : i ∈ fullL h ↔ i < h.length ∧ 0 < gt h i := by
  unfold fullL
  rw [List.mem_filter, List.mem_range, decide_eq_true_eq]
theorem nodup_full (h : List Int) : (fullL h).Nodup := List.Nodup.sublist (List.filter_sublist) List.nodup_range
theorem full_pos {h : List Int} (n : NN h) (s : 0 < h.sum) : 1 ≤ full h := by
  rcases Nat.lt_or_ge (full h) 1 with c | c
  · have e : fullL h = [] := List.length_eq_zero_iff.mp (by unfold full at c; omega)
    have z : ∀ (l : List Int), (∀ i, i < l.length → gt l i = 0) → l.sum = 0 := by
      intro l
      induction l with
      | nil => intro _; rfl
      | cons x l ih =>
        intro hz
        have h0 : x = 0 := hz 0 (by simp)
        have h1 := ih fun i hi => hz (i + 1) (by simp; omega)
        show x + l.sum = 0
        omega
    have := z h fun i hi => by
      have h1 := n i
      rcases Int.lt_or_le 0 (gt h i) with c | c
      · have := mem_full.mpr ⟨hi, c⟩
        rw [e] at this
        cases this
      · omega
    omega
  · exact c
theorem map_gt (h : List Int) : (List.range h.length).map (gt h) = h := by
  apply List.ext_getElem?
  intro i
  rw [List.getElem?_map]
  rcases Nat.lt_or_ge i h.length with c | c
  · rw [List.getElem?_range c]
    show some (gt h i) = _
    unfold gt
    rw [List.getD_eq_getElem?_getD, List.getElem?_eq_getElem c]
    rfl
  · rw [List.getElem?_eq_none (by rw [List.length_range]; exact c), List.getElem?_eq_none c]
    rfl
theorem full_filter (h : List Int) : (h.filter fun x => decide (0 < x)).length = full h := by
  conv => lhs; rw [← map_gt h]
  rw [List.filter_map, List.length_map]
  rfl
/-- the sum of two full heaps alone -/
theorem sum_one : ∀ (h : List Int) (i : Nat), i < h.length → (∀ k, k ≠ i → gt h k = 0) → h.sum = gt h i
  | x :: h, 0, _, z => by
    have e : ∀ (l : List Int), (∀ i, gt l i = 0) → l.sum = 0 := by
      intro l
      induction l with
      | nil => intro _; rfl
      | cons x l ih =>
        intro hz
        have h0 : x = 0 := hz 0
        have h1 := ih fun i => hz (i + 1)
        show x + l.sum = 0
        omega
    have := e h fun k => z (k + 1) (by omega)
    show x + h.sum = x
    omega
  | x :: h, i + 1, hi, z => by
    have h0 : x = 0 := z 0 (by omega)
    have := sum_one h i (by rw [List.length_cons] at hi; omega) fun k hk => z (k + 1) (by omega)
    show x + h.sum = gt h i
    omega
theorem sum_two {h : List Int} {i j : Nat} (hi : i < h.length) (hj : j < h.length) (ij : i ≠ j) (z : ∀ k, k ≠ i → k ≠ j → gt h k = 0) : h.sum = gt h i + gt h j := by
  have e := sum_set h j 0 hj
  have o := sum_one (h.set j 0) i (by rw [List.length_set]; exact hi) fun k hk => by
    rw [gt_set _ _ _ _ hj]
    split
    · rfl
    · rename_i c; exact z k hk c
  rw [gt_set _ _ _ _ hj, if_neg ij] at o
  omega
end Pu


namespace Pu
open PySem L2
structure OkR (h : List Int) : Prop where
  l2 : 2 ≤ h.length
  l6 : h.length ≤ 6
  nn : NN h
  s1 : 1 ≤ h.sum
  s6 : h.sum ≤ 6 * big
theorem sum_le_len {m : Int} : ∀ l : List Int, (∀ x ∈ l, x ≤ m) → l.sum ≤ (l.length : Int) * m
  | [], _ => by simp
  | x :: l, h => by
    have ih := sum_le_len l fun y hy => h y (List.mem_cons_of_mem _ hy)
    have hx := h x List.mem_cons_self
    have e : (x :: l).sum = x + l.sum := rfl
    rw [e, List.length_cons, Int.natCast_add, Int.add_mul, Int.natCast_one, Int.one_mul]
    omega
theorem OkH.okR {h : List Int} (o : OkH h) : OkR h := by
  have n : NN h := nn_of fun x hx => (o.rg x hx).1
  obtain ⟨x, hx, nx⟩ := o.nz
  obtain ⟨i, hi, e⟩ := List.mem_iff_getElem.mp hx
  have g : gt h i = x := by
    unfold gt
    rw [List.getD_eq_getElem?_getD, List.getElem?_eq_getElem hi]
    exact e
  have h1 := (gt_le_sum n).2 i
  have h2 := (o.rg x hx).1
  have h3 := sum_le_len (m := big) h fun x hx => (o.rg x hx).2
  have h4 : (h.length : Int) * big ≤ 6 * big := Int.mul_le_mul_of_nonneg_right (by have := o.l6; omega) (by decide)
  exact ⟨o.l2, o.l6, n, by omega, by omega⟩
theorem OkR.runs {h g : List Int} {p : List (Nat × Nat)} (o : OkR h) (r : runs h p g) : OkR g := by
  have l := runs_len r
  have s := runs_sum r
  exact ⟨by rw [l]; exact o.l2, by rw [l]; exact o.l6, runs_nn r o.nn, by rw [s]; exact o.s1, by rw [s]; exact o.s6⟩
theorem big_v : big = 1000000000000000000000000000000 := rfl
theorem s103 {h : List Int} (o : OkR h) : h.sum < ((2 ^ 103 : Nat) : Int) := by
  have := o.s6
  have e : ((2 ^ 103 : Nat) : Int) = 10141204801825835211973625643008 := by decide
  have := big_v
  omega
theorem gt_small {h : List Int} (o : OkR h) (i : Nat) : 0 ≤ gt h i ∧ gt h i ≤ 6 * big := ⟨o.nn i, by have := (gt_le_sum o.nn).2 i; have := o.s6; omega⟩
theorem small_Z {x : Int} (h0 : 0 ≤ x) (h1 : x ≤ 100 * big) : x.natAbs < 2 ^ 110 := by
  have : (2 : Nat) ^ 110 = 1298074214633706907132624082305024 := by decide
  have := big_v
  omega
theorem mulZ {x y : Int} (h0 : 0 ≤ x) (h1 : x ≤ 100 * big) (h2 : 0 ≤ y) (h3 : y ≤ 100 * big) : CMulW x y := wide_mul (small_Z h0 h1) (small_Z h2 h3) (by decide) (by decide) (by decide)
theorem divZ {x y : Int} (h2 : 0 < y) (h3 : y ≤ 100 * big) : CDivW x y := wide_div (b := 110) (by omega) (small_Z (by omega) h3) (by decide) (by decide)
/-! the odd part -/
def sp_odd_of : Spc := fun ds A _ => ∃ n : Nat, ds = [.int n] ∧ 1 ≤ n ∧ ∀ l f, n = l * 2 ^ f → l % 2 = 1 → A (.int l)

def w_odd_of : WS :=
    (wSeq (wWh (wB (wOp gEq (wOp gMod (wV 0) (wC (.int 2))) (wC (.int 0)))) (wAug 0 gDiv (wC (.int 2))))
    (wRet (wV 0)))
theorem pure_odd_of : Pure 1 1 sp_odd_of w_odd_of := by
  rintro ds A B - ⟨n, rfl, hq, hA⟩
  simp only [w_odd_of, bl?, g2, gAdd, gDiv, gEq, gGe, gGt, gI, gIn, gInt, gIs, gIsNot, gLe, gLen, gList, gLt, gMM, gMod, gMul, gMulS, gNe, gNotIn, gPow, gSorted, gSub, gIadd, gSum, gTuple, puts, sV, sVs, slotM, wAnd, wApp, wAsg, wAug, wAugI, wB, wC, wCall, wCallR, wChain, wCons, wDraw, wDrop, wEnL, wEnT, wExt, wFn, wFnO, wFor, wGCons, wGNil, wGT, wIL, wIT, wIdx, wIf, wIfS, wIsi, wIx, wLc, wLst, wMNil, wMO, wMV, wMix, wN, wNeg, wNil, wNot, wNotT, wO, wOp, wOr, wOwn, wPar, wR1, wR2, wRaise, wRaiseF, wRet, wSeq, wSet, wSetI, wSkip, wTAnd, wTNot, wTOr, wTru, wTry, wTryF, wTup, wV, wYes, wSplit, wJoin, wRstrip, wFmt, wJNil, wJCons, wJs, gStr, gIntS, wIS, gSignNotIn, wSl, wSlt, wPn, wPs, gMulT, wGL, wTryAs, wXf, wXis, wCat, wCatV, wIxV, wDGet, wDIn, wDInT, wDGet2, wDPut, wDisp1, wOwnD, wMD, wForD, wLcD, wFz, wMv, wMinD, gListD, fzS, wDK, wDT, wFldO, wFldS, wMeth, wProp, wLenO, wCallO, wMake, wNewOb, wNewObL, wMethC, gLenD, wDGetV, wPopS, wUpd, wLV, wLI, wForIt, wSortSet, wCallIx, gSortedT, wTabIx, wTree, wForChg, messSlot, wSortLam, wAsgO, startS, List.length_cons, List.length_nil, List.map_cons, List.map_nil, List.getElem?_cons_zero, List.getElem?_cons_succ, List.set_cons_zero, List.set_cons_succ, List.cons_append, List.nil_append, List.append_nil, List.replicate_succ, List.replicate_zero, Nat.reduceAdd, Nat.reduceSub, ↓reduceIte, Bool.false_eq_true, reduceCtorEq, true_and, and_true, true_or, or_true, false_or, or_false, Bool.not_true, Bool.not_false, Bool.true_and, Bool.false_and, Bool.and_true, decide_eq_true_eq, Bool.not_eq_eq_eq_not, exists_eq_left, exists_eq_left', Option.some.injEq]
  refine ⟨n + 1, wh_ok (fun (s : Nat × Nat) S => S = [.im (.int (s.1 : Int))] ∧ 1 ≤ s.1 ∧ n = s.1 * 2 ^ s.2) (fun s => s.1) ?_ (n + 1) (n, 0) _ (Nat.lt_succ_self n) ⟨rfl, hq, by rw [Nat.pow_zero, Nat.mul_one]⟩⟩
  rintro ⟨y, f⟩ S ⟨rfl, hy, hn⟩ Nx hN
  have hy : 1 ≤ y := hy
  have hn : n = y * 2 ^ f := hn
  have e3 : ((y : Int).fmod 2) = ((y % 2 : Nat) : Int) := fmod_nat y 2
  have e4 : ((y : Int) / 2) = ((y / 2 : Nat) : Int) := rfl
  have d2 : CDivW (y : Int) 2 := ⟨by decide, by decide⟩
  simp only [bl?, g2, gAdd, gDiv, gEq, gGe, gGt, gI, gIn, gInt, gIs, gIsNot, gLe, gLen, gList, gLt, gMM, gMod, gMul, gMulS, gNe, gNotIn, gPow, gSorted, gSub, gIadd, gSum, gTuple, puts, sV, sVs, slotM, wAnd, wApp, wAsg, wAug, wAugI, wB, wC, wCall, wCallR, wChain, wCons, wDraw, wDrop, wEnL, wEnT, wExt, wFn, wFnO, wFor, wGCons, wGNil, wGT, wIL, wIT, wIdx, wIf, wIfS, wIsi, wIx, wLc, wLst, wMNil, wMO, wMV, wMix, wN, wNeg, wNil, wNot, wNotT, wO, wOp, wOr, wOwn, wPar, wR1, wR2, wRaise, wRaiseF, wRet, wSeq, wSet, wSetI, wSkip, wTAnd, wTNot, wTOr, wTru, wTry, wTryF, wTup, wV, wYes, wSplit, wJoin, wRstrip, wFmt, wJNil, wJCons, wJs, gStr, gIntS, wIS, gSignNotIn, wSl, wSlt, wPn, wPs, gMulT, wGL, wTryAs, wXf, wXis, wCat, wCatV, wIxV, wDGet, wDIn, wDInT, wDGet2, wDPut, wDisp1, wOwnD, wMD, wForD, wLcD, wFz, wMv, wMinD, gListD, fzS, wDK, wDT, wFldO, wFldS, wMeth, wProp, wLenO, wCallO, wMake, wNewOb, wNewObL, wMethC, gLenD, wDGetV, wPopS, wUpd, wLV, wLI, wForIt, wSortSet, wCallIx, gSortedT, wTabIx, wTree, wForChg, messSlot, wSortLam, wAsgO, startS, List.length_cons, List.length_nil, List.map_cons, List.map_nil, List.getElem?_cons_zero, List.getElem?_cons_succ, List.set_cons_zero, List.set_cons_succ, List.cons_append, List.nil_append, List.append_nil, List.replicate_succ, List.replicate_zero, Nat.reduceAdd, Nat.reduceSub, ↓reduceIte, Bool.false_eq_true, reduceCtorEq, true_and, and_true, true_or, or_true, false_or, or_false, Bool.not_true, Bool.not_false, Bool.true_and, Bool.false_and, Bool.and_true, decide_eq_true_eq, Bool.not_eq_eq_eq_not, exists_eq_left, exists_eq_left', Option.some.injEq, e3, e4, shaped_int, eqv_int, flat]
  by_cases c : y % 2 = 0
  · have c' : (((y % 2 : Nat) : Int) = 0) := by omega
    simp only [c', decide_true, startS, List.length_cons, List.length_nil, List.map_cons, List.map_nil, List.getElem?_cons_zero, List.getElem?_cons_succ, List.set_cons_zero, List.set_cons_succ, List.cons_append, List.nil_append, List.append_nil, List.replicate_succ, List.replicate_zero, Nat.reduceAdd, Nat.reduceSub, ↓reduceIte, Bool.false_eq_true, reduceCtorEq, true_and, and_true, true_or, or_true, false_or, or_false, Bool.not_true, Bool.not_false, Bool.true_and, Bool.false_and, Bool.and_true, decide_eq_true_eq, Bool.not_eq_eq_eq_not, exists_eq_left, exists_eq_left', Option.some.injEq]
    refine ⟨by decide, d2, hN (y / 2, f + 1) _ (by show y / 2 < y; omega) ⟨rfl, by show 1 ≤ y / 2; omega, ?_⟩⟩
    show n = y / 2 * 2 ^ (f + 1)
    rw [hn, Nat.pow_succ, Nat.mul_comm (2 ^ f) 2, ← Nat.mul_assoc]
    congr 1
    omega
  · have c' : ¬ (((y % 2 : Nat) : Int) = 0) := by omega
    have ho : y % 2 = 1 := by omega
    have hA' := hA y f hn ho
    simp only [c', decide_false, startS, List.length_cons, List.length_nil, List.map_cons, List.map_nil, List.getElem?_cons_zero, List.getElem?_cons_succ, List.set_cons_zero, List.set_cons_succ, List.cons_append, List.nil_append, List.append_nil, List.replicate_succ, List.replicate_zero, Nat.reduceAdd, Nat.reduceSub, ↓reduceIte, Bool.false_eq_true, reduceCtorEq, true_and, and_true, true_or, or_true, false_or, or_false, Bool.not_true, Bool.not_false, Bool.true_and, Bool.false_and, Bool.and_true, decide_eq_true_eq, Bool.not_eq_eq_eq_not, exists_eq_left, exists_eq_left', Option.some.injEq]
    exact ⟨by decide, hA'⟩
theorem odd_split : ∀ n : Nat, 1 ≤ n → ∃ l f, n = l * 2 ^ f ∧ l % 2 = 1 := fun n => by
  induction n using Nat.strongRecOn with
  | ind n ih =>
    intro h
    by_cases c : n % 2 = 1
    · exact ⟨n, 0, by rw [Nat.pow_zero, Nat.mul_one], c⟩
    · obtain ⟨l, f, e, o⟩ := ih (n / 2) (by omega) (by omega)
      refine ⟨l, f + 1, ?_, o⟩
      rw [Nat.pow_succ, ← Nat.mul_assoc, ← e]
      omega
theorem odd_uniq {l f : Nat} : ∀ {l' f' : Nat}, l * 2 ^ f = l' * 2 ^ f' → l % 2 = 1 → l' % 2 = 1 → l = l' ∧ f = f' := by
  induction f with
  | zero =>
    intro l' f' e h h'
    cases f' with
    | zero => simp at e; exact ⟨e, rfl⟩
    | succ f' =>
      rw [Nat.pow_succ, ← Nat.mul_assoc] at e
      simp at e
      omega
  | succ f ih =>
    intro l' f' e h h'
    cases f' with
    | zero =>
      rw [Nat.pow_succ, ← Nat.mul_assoc] at e
      simp at e
      omega
    | succ f' =>
      rw [Nat.pow_succ, Nat.pow_succ, ← Nat.mul_assoc, ← Nat.mul_assoc] at e
      obtain ⟨a, b⟩ := ih (l' := l') (f' := f') (by omega) h h'
      exact ⟨a, by omega⟩
/-- the common part of all heaps -/
def gcdH (h : List Int) : Nat := h.foldl (fun g x => Nat.gcd g x.toNat) 0
theorem gcd_fold : ∀ (h : List Int) (g : Nat), (h.foldl (fun g x => Nat.gcd g x.toNat) g ∣ g) ∧ ∀ x ∈ h, h.foldl (fun g x => Nat.gcd g x.toNat) g ∣ x.toNat
  | [], g => ⟨Nat.dvd_refl g, fun x hx => by cases hx⟩
  | x :: h, g => by
    obtain ⟨a, b⟩ := gcd_fold h (Nat.gcd g x.toNat)
    refine ⟨Nat.dvd_trans a (Nat.gcd_dvd_left _ _), fun y hy => ?_⟩
    rcases List.mem_cons.mp hy with z | z
    · rw [z]; exact Nat.dvd_trans a (Nat.gcd_dvd_right _ _)
    · exact b y z
theorem gcd_dvd {h : List Int} {x : Int} (hx : x ∈ h) : gcdH h ∣ x.toNat := (gcd_fold h 0).2 x hx
theorem gcd_sum_dvd {h : List Int} (n : ∀ x ∈ h, 0 ≤ x) : gcdH h ∣ h.sum.toNat := by
  have key : ∀ (l : List Int), (∀ x ∈ l, 0 ≤ x) → (∀ x ∈ l, gcdH h ∣ x.toNat) → 0 ≤ l.sum ∧ gcdH h ∣ l.sum.toNat := by
    intro l
    induction l with
    | nil => intro _ _; exact ⟨Int.le_refl _, Nat.dvd_zero _⟩
    | cons x l ih =>
      intro a b
      obtain ⟨c, d⟩ := ih (fun y hy => a y (List.mem_cons_of_mem _ hy)) (fun y hy => b y (List.mem_cons_of_mem _ hy))
      have x0 := a x List.mem_cons_self
      have e : (x :: l).sum = x + l.sum := rfl
      refine ⟨by omega, ?_⟩
      have e2 : (x :: l).sum.toNat = x.toNat + l.sum.toNat := by omega
      rw [e2]
      exact Nat.dvd_add (b x List.mem_cons_self) d
  exact (key h n fun x hx => gcd_dvd hx).2
structure OddH (h : List Int) (l f : Nat) : Prop where
  eq : h.sum.toNat / gcdH h = l * 2 ^ f
  odd : l % 2 = 1
theorem gcd_pos {h : List Int} (o : OkH h) : 0 < gcdH h ∧ gcdH h ≤ h.sum.toNat ∧ 1 ≤ h.sum.toNat / gcdH h := by
  have d := gcd_sum_dvd fun x hx => (o.rg x hx).1
  have s := o.okR.s1
  have p : 0 < gcdH h := Nat.pos_of_dvd_of_pos d (by omega)
  have l := Nat.le_of_dvd (by omega) d
  exact ⟨p, l, (Nat.le_div_iff_mul_le p).mpr (by omega)⟩
theorem OddH.ex {h : List Int} (o : OkH h) : ∃ l f, OddH h l f := by
  obtain ⟨l, f, e, d⟩ := odd_split _ (gcd_pos o).2.2
  exact ⟨l, f, e, d⟩
theorem OddH.uniq {h : List Int} {l f l' f' : Nat} (a : OddH h l f) (b : OddH h l' f') : l = l' := (odd_uniq (a.eq.symm.trans b.eq) a.odd b.odd).1
theorem cast_toNat {x : Int} (h : 0 ≤ x) : ((x.toNat : Nat) : Int) = x := Int.toNat_of_nonneg h
def sp_odd_by : Spc := fun ds A _ => ∃ h, ds = [eH h] ∧ OkH h ∧ ∀ l f, OddH h l f → A (.int l)

def w_odd_by : WS :=
    (wSeq (wSet 1 (wC (.int 0)))
    (wSeq (wFor (wIT (wV 0)) (wN 2) (wSet 1 (wCall sp_common (wCons (wV 1) (wCons (wV 2) wNil)))))
    (wRet (wCall sp_odd_of (wCons (wOp gDiv (wFn gSum (wCons (wV 0) wNil)) (wV 1)) wNil)))))
theorem pure_odd_by : Pure 3 1 sp_odd_by w_odd_by := by
  rintro ds A B - ⟨h, rfl, o, hA⟩
  obtain ⟨g0, g1, g2⟩ := gcd_pos o
  have R := o.okR
  simp only [w_odd_by, bl?, g2, gAdd, gDiv, gEq, gGe, gGt, gI, gIn, gInt, gIs, gIsNot, gLe, gLen, gList, gLt, gMM, gMod, gMul, gMulS, gNe, gNotIn, gPow, gSorted, gSub, gIadd, gSum, gTuple, puts, sV, sVs, slotM, wAnd, wApp, wAsg, wAug, wAugI, wB, wC, wCall, wCallR, wChain, wCons, wDraw, wDrop, wEnL, wEnT, wExt, wFn, wFnO, wFor, wGCons, wGNil, wGT, wIL, wIT, wIdx, wIf, wIfS, wIsi, wIx, wLc, wLst, wMNil, wMO, wMV, wMix, wN, wNeg, wNil, wNot, wNotT, wO, wOp, wOr, wOwn, wPar, wR1, wR2, wRaise, wRaiseF, wRet, wSeq, wSet, wSetI, wSkip, wTAnd, wTNot, wTOr, wTru, wTry, wTryF, wTup, wV, wYes, wSplit, wJoin, wRstrip, wFmt, wJNil, wJCons, wJs, gStr, gIntS, wIS, gSignNotIn, wSl, wSlt, wPn, wPs, gMulT, wGL, wTryAs, wXf, wXis, wCat, wCatV, wIxV, wDGet, wDIn, wDInT, wDGet2, wDPut, wDisp1, wOwnD, wMD, wForD, wLcD, wFz, wMv, wMinD, gListD, fzS, wDK, wDT, wFldO, wFldS, wMeth, wProp, wLenO, wCallO, wMake, wNewOb, wNewObL, wMethC, gLenD, wDGetV, wPopS, wUpd, wLV, wLI, wForIt, wSortSet, wCallIx, gSortedT, wTabIx, wTree, wForChg, messSlot, wSortLam, wAsgO, startS, List.length_cons, List.length_nil, List.map_cons, List.map_nil, List.getElem?_cons_zero, List.getElem?_cons_succ, List.set_cons_zero, List.set_cons_succ, List.cons_append, List.nil_append, List.append_nil, List.replicate_succ, List.replicate_zero, Nat.reduceAdd, Nat.reduceSub, ↓reduceIte, Bool.false_eq_true, reduceCtorEq, true_and, and_true, true_or, or_true, false_or, or_false, Bool.not_true, Bool.not_false, Bool.true_and, Bool.false_and, Bool.and_true, decide_eq_true_eq, Bool.not_eq_eq_eq_not, exists_eq_left, exists_eq_left', Option.some.injEq, eH]
  refine for_inv (fun r S => ∃ q s2, r = q.map PyData.int ∧ (∀ x ∈ q, 0 ≤ x) ∧ ∃ g : Nat, S = [.im (.tuple (h.map .int)), .im (.int (g : Int)), s2] ∧ q.foldl (fun g x => Nat.gcd g x.toNat) g = gcdH h) _ _ ?_ ⟨h, _, rfl, fun x hx => (o.rg x hx).1, 0, rfl, rfl⟩ ?_
  · rintro d r S ⟨q, s2, er, hq, g, rfl, eg⟩ Nx hN
    cases q with
    | nil => cases er
    | cons x q =>
      cases er
      have x0 := hq x List.mem_cons_self
      simp only [bl?, g2, gAdd, gDiv, gEq, gGe, gGt, gI, gIn, gInt, gIs, gIsNot, gLe, gLen, gList, gLt, gMM, gMod, gMul, gMulS, gNe, gNotIn, gPow, gSorted, gSub, gIadd, gSum, gTuple, puts, sV, sVs, slotM, wAnd, wApp, wAsg, wAug, wAugI, wB, wC, wCall, wCallR, wChain, wCons, wDraw, wDrop, wEnL, wEnT, wExt, wFn, wFnO, wFor, wGCons, wGNil, wGT, wIL, wIT, wIdx, wIf, wIfS, wIsi, wIx, wLc, wLst, wMNil, wMO, wMV, wMix, wN, wNeg, wNil, wNot, wNotT, wO, wOp, wOr, wOwn, wPar, wR1, wR2, wRaise, wRaiseF, wRet, wSeq, wSet, wSetI, wSkip, wTAnd, wTNot, wTOr, wTru, wTry, wTryF, wTup, wV, wYes, wSplit, wJoin, wRstrip, wFmt, wJNil, wJCons, wJs, gStr, gIntS, wIS, gSignNotIn, wSl, wSlt, wPn, wPs, gMulT, wGL, wTryAs, wXf, wXis, wCat, wCatV, wIxV, wDGet, wDIn, wDInT, wDGet2, wDPut, wDisp1, wOwnD, wMD, wForD, wLcD, wFz, wMv, wMinD, gListD, fzS, wDK, wDT, wFldO, wFldS, wMeth, wProp, wLenO, wCallO, wMake, wNewOb, wNewObL, wMethC, gLenD, wDGetV, wPopS, wUpd, wLV, wLI, wForIt, wSortSet, wCallIx, gSortedT, wTabIx, wTree, wForChg, messSlot, wSortLam, wAsgO, startS, List.length_cons, List.length_nil, List.map_cons, List.map_nil, List.getElem?_cons_zero, List.getElem?_cons_succ, List.set_cons_zero, List.set_cons_succ, List.cons_append, List.nil_append, List.append_nil, List.replicate_succ, List.replicate_zero, Nat.reduceAdd, Nat.reduceSub, ↓reduceIte, Bool.false_eq_true, reduceCtorEq, true_and, and_true, true_or, or_true, false_or, or_false, Bool.not_true, Bool.not_false, Bool.true_and, Bool.false_and, Bool.and_true, decide_eq_true_eq, Bool.not_eq_eq_eq_not, exists_eq_left, exists_eq_left', Option.some.injEq, flat_int]
      refine ⟨g, x.toNat, by rw [cast_toNat x0], hN _ ⟨q, _, rfl, fun y hy => hq y (List.mem_cons_of_mem _ hy), _, rfl, eg⟩⟩
  · rintro S ⟨q, s2, er, hq, g, rfl, eg⟩
    cases q with
    | cons x q => cases er
    | nil =>
      have eg : g = gcdH h := eg
      subst eg
      simp only [bl?, g2, gAdd, gDiv, gEq, gGe, gGt, gI, gIn, gInt, gIs, gIsNot, gLe, gLen, gList, gLt, gMM, gMod, gMul, gMulS, gNe, gNotIn, gPow, gSorted, gSub, gIadd, gSum, gTuple, puts, sV, sVs, slotM, wAnd, wApp, wAsg, wAug, wAugI, wB, wC, wCall, wCallR, wChain, wCons, wDraw, wDrop, wEnL, wEnT, wExt, wFn, wFnO, wFor, wGCons, wGNil, wGT, wIL, wIT, wIdx, wIf, wIfS, wIsi, wIx, wLc, wLst, wMNil, wMO, wMV, wMix, wN, wNeg, wNil, wNot, wNotT, wO, wOp, wOr, wOwn, wPar, wR1, wR2, wRaise, wRaiseF, wRet, wSeq, wSet, wSetI, wSkip, wTAnd, wTNot, wTOr, wTru, wTry, wTryF, wTup, wV, wYes, wSplit, wJoin, wRstrip, wFmt, wJNil, wJCons, wJs, gStr, gIntS, wIS, gSignNotIn, wSl, wSlt, wPn, wPs, gMulT, wGL, wTryAs, wXf, wXis, wCat, wCatV, wIxV, wDGet, wDIn, wDInT, wDGet2, wDPut, wDisp1, wOwnD, wMD, wForD, wLcD, wFz, wMv, wMinD, gListD, fzS, wDK, wDT, wFldO, wFldS, wMeth, wProp, wLenO, wCallO, wMake, wNewOb, wNewObL, wMethC, gLenD, wDGetV, wPopS, wUpd, wLV, wLI, wForIt, wSortSet, wCallIx, gSortedT, wTabIx, wTree, wForChg, messSlot, wSortLam, wAsgO, startS, List.length_cons, List.length_nil, List.map_cons, List.map_nil, List.getElem?_cons_zero, List.getElem?_cons_succ, List.set_cons_zero, List.set_cons_succ, List.cons_append, List.nil_append, List.append_nil, List.replicate_succ, List.replicate_zero, Nat.reduceAdd, Nat.reduceSub, ↓reduceIte, Bool.false_eq_true, reduceCtorEq, true_and, and_true, true_or, or_true, false_or, or_false, Bool.not_true, Bool.not_false, Bool.true_and, Bool.false_and, Bool.and_true, decide_eq_true_eq, Bool.not_eq_eq_eq_not, exists_eq_left, exists_eq_left', Option.some.injEq, flat_int]
      have es : h.sum = ((h.sum.toNat : Nat) : Int) := (cast_toNat (by have := R.s1; omega)).symm
      refine ⟨h, ints?_map h, divZ (by omega) (by have := R.s6; omega), h.sum.toNat / gcdH h, ?_, g2, fun l f e1 e2 => hA l f ⟨e1, e2⟩⟩
      rw [es, div_nat]
      rfl
def sp_odd_part : Spc := sp_odd_by

def w_odd_part : WS :=
    (wSeq (wDrop (wCall sp_check_heaps (wCons (wV 0) wNil)))
    (wRet (wCall sp_odd_by (wCons (wV 0) wNil))))
theorem pure_odd_part : Pure 1 1 sp_odd_part w_odd_part := by
  rintro ds A B - ⟨h, rfl, o, hA⟩
  simp only [w_odd_part, bl?, g2, gAdd, gDiv, gEq, gGe, gGt, gI, gIn, gInt, gIs, gIsNot, gLe, gLen, gList, gLt, gMM, gMod, gMul, gMulS, gNe, gNotIn, gPow, gSorted, gSub, gIadd, gSum, gTuple, puts, sV, sVs, slotM, wAnd, wApp, wAsg, wAug, wAugI, wB, wC, wCall, wCallR, wChain, wCons, wDraw, wDrop, wEnL, wEnT, wExt, wFn, wFnO, wFor, wGCons, wGNil, wGT, wIL, wIT, wIdx, wIf, wIfS, wIsi, wIx, wLc, wLst, wMNil, wMO, wMV, wMix, wN, wNeg, wNil, wNot, wNotT, wO, wOp, wOr, wOwn, wPar, wR1, wR2, wRaise, wRaiseF, wRet, wSeq, wSet, wSetI, wSkip, wTAnd, wTNot, wTOr, wTru, wTry, wTryF, wTup, wV, wYes, wSplit, wJoin, wRstrip, wFmt, wJNil, wJCons, wJs, gStr, gIntS, wIS, gSignNotIn, wSl, wSlt, wPn, wPs, gMulT, wGL, wTryAs, wXf, wXis, wCat, wCatV, wIxV, wDGet, wDIn, wDInT, wDGet2, wDPut, wDisp1, wOwnD, wMD, wForD, wLcD, wFz, wMv, wMinD, gListD, fzS, wDK, wDT, wFldO, wFldS, wMeth, wProp, wLenO, wCallO, wMake, wNewOb, wNewObL, wMethC, gLenD, wDGetV, wPopS, wUpd, wLV, wLI, wForIt, wSortSet, wCallIx, gSortedT, wTabIx, wTree, wForChg, messSlot, wSortLam, wAsgO, startS, List.length_cons, List.length_nil, List.map_cons, List.map_nil, List.getElem?_cons_zero, List.getElem?_cons_succ, List.set_cons_zero, List.set_cons_succ, List.cons_append, List.nil_append, List.append_nil, List.replicate_succ, List.replicate_zero, Nat.reduceAdd, Nat.reduceSub, ↓reduceIte, Bool.false_eq_true, reduceCtorEq, true_and, and_true, true_or, or_true, false_or, or_false, Bool.not_true, Bool.not_false, Bool.true_and, Bool.false_and, Bool.and_true, decide_eq_true_eq, Bool.not_eq_eq_eq_not, exists_eq_left, exists_eq_left', Option.some.injEq]
  exact check_ok o ⟨h, rfl, o, hA⟩
/-! full places -/
theorem leK_is (h : List Int) (m n : Int) : leK h m n = decide (h.getD m.toNat 0 < h.getD n.toNat 0 ∨ (h.getD m.toNat 0 = h.getD n.toNat 0 ∧ m ≤ n)) :=
  congrFun (congrFun (PySem.W.dataLe_ii (fun n : Int => h.getD n.toNat 0) (fun n => n)) m) n
theorem sort_is (h : List Int) (xs : List Nat) : ∃ ys : List Nat, ((xs.map fun (i : Nat) => (i : Int)).mergeSort (leK h)) = ys.map (fun (i : Nat) => (i : Int)) ∧ ys.Perm xs ∧ ys.Pairwise (fun i j => gt h i ≤ gt h j) := by
  have pm := List.mergeSort_perm (xs.map fun (i : Nat) => (i : Int)) (leK h)
  have sr : ((xs.map fun (i : Nat) => (i : Int)).mergeSort (leK h)).Pairwise (fun a b => leK h a b = true) := List.pairwise_mergeSort (fun a b c h1 h2 => by
    rw [leK_is, decide_eq_true_eq] at *
    omega) (fun a b => by
    rw [leK_is, leK_is, ← Bool.decide_or, decide_eq_true_eq]
    omega) _
  generalize (xs.map fun (i : Nat) => (i : Int)).mergeSort (leK h) = zs at pm sr
  have back : (zs.map Int.toNat).map (fun (i : Nat) => (i : Int)) = zs := by
    rw [List.map_map]
    conv => rhs; rw [← List.map_id zs]
    apply List.map_congr_left
    intro z hz
    obtain ⟨i, _, rfl⟩ := List.mem_map.mp (pm.mem_iff.mp hz)
    rfl
  refine ⟨zs.map Int.toNat, back.symm, ?_, ?_⟩
  · have q := pm.map Int.toNat
    rw [List.map_map] at q
    have e : xs.map (Int.toNat ∘ fun (i : Nat) => (i : Int)) = xs := by
      conv => rhs; rw [← List.map_id xs]
      apply List.map_congr_left
      intro z _
      rfl
    rw [e] at q
    exact q
  · rw [List.pairwise_map]
    refine sr.imp fun {a b} q => ?_
    rw [leK_is, decide_eq_true_eq] at q
    show h.getD a.toNat 0 ≤ h.getD b.toNat 0
    omega
theorem enum_is : ∀ (h : List Int) (k : Nat), enumFr k (h.map PyData.int) = (List.range h.length).map fun i => PyData.tuple [.int ((k + i : Nat) : Int), .int (gt h i)]
  | [], k => rfl
  | x :: h, k => by
    have ih := enum_is h (k + 1)
    show PyData.tuple [.int (k : Int), .int x] :: enumFr (k + 1) (h.map PyData.int) = _
    rw [ih, List.length_cons, List.range_succ_eq_map, List.map_cons, List.map_map]
    refine congr (congrArg List.cons rfl) ?_
    apply List.map_congr_left
    intro i _
    show PyData.tuple [.int ((k + 1 + i : Nat) : Int), .int (gt h i)] = PyData.tuple [.int ((k + (i + 1) : Nat) : Int), .int (gt h i)]
    rw [show k + 1 + i = k + (i + 1) from by omega]
structure AscF (h : List Int) (ys : List Nat) : Prop where
  pm : ys.Perm (fullL h)
  so : ys.Pairwise (fun i j => gt h i ≤ gt h j)
theorem AscF.len {h : List Int} {ys : List Nat} (a : AscF h ys) : ys.length = full h := a.pm.length_eq
theorem AscF.mem {h : List Int} {ys : List Nat} (a : AscF h ys) {i : Nat} (hi : i ∈ ys) : i < h.length ∧ 0 < gt h i := mem_full.mp (a.pm.mem_iff.mp hi)
theorem AscF.nd {h : List Int} {ys : List Nat} (a : AscF h ys) : ys.Nodup := a.pm.nodup_iff.mpr (nodup_full h)
theorem AscF.out {h : List Int} {ys : List Nat} (a : AscF h ys) (n : NN h) {i : Nat} (hi : i < h.length) (hn : i ∉ ys) : gt h i = 0 := by
  have := n i
  rcases Int.lt_or_le 0 (gt h i) with c | c
  · exact absurd (a.pm.mem_iff.mpr (mem_full.mpr ⟨hi, c⟩)) hn
  · omega
def sp_full_places : Spc := fun ds A _ => ∃ h, ds = [eH h] ∧ h.length ≤ 6 ∧ ∀ ys, AscF h ys → A (.list (ys.map eN))

def w_full_places : WS :=
    (wSeq (wSet 1 (wO (wLc (wEnT (wV 0)) (wGT 2 (wGCons (wN 2) (wGCons (wN 3) wGNil))) (wB (wOp gGt (wV 3) (wC (.int 0)))) (wV 2) [2, 3])))
    (wRet (wO (wSortLam 0 (wV 1)))))
theorem eN_map (ys : List Nat) : (ys.map fun (i : Nat) => (i : Int)).map PyData.int = ys.map eN := by rw [List.map_map]; rfl
theorem pure_full_places : Pure 4 1 sp_full_places w_full_places := by
  rintro ds A B - ⟨h, rfl, l6, hA⟩
  simp only [w_full_places, bl?, g2, gAdd, gDiv, gEq, gGe, gGt, gI, gIn, gInt, gIs, gIsNot, gLe, gLen, gList, gLt, gMM, gMod, gMul, gMulS, gNe, gNotIn, gPow, gSorted, gSub, gIadd, gSum, gTuple, puts, sV, sVs, slotM, wAnd, wApp, wAsg, wAug, wAugI, wB, wC, wCall, wCallR, wChain, wCons, wDraw, wDrop, wEnL, wEnT, wExt, wFn, wFnO, wFor, wGCons, wGNil, wGT, wIL, wIT, wIdx, wIf, wIfS, wIsi, wIx, wLc, wLst, wMNil, wMO, wMV, wMix, wN, wNeg, wNil, wNot, wNotT, wO, wOp, wOr, wOwn, wPar, wR1, wR2, wRaise, wRaiseF, wRet, wSeq, wSet, wSetI, wSkip, wTAnd, wTNot, wTOr, wTru, wTry, wTryF, wTup, wV, wYes, wSplit, wJoin, wRstrip, wFmt, wJNil, wJCons, wJs, gStr, gIntS, wIS, gSignNotIn, wSl, wSlt, wPn, wPs, gMulT, wGL, wTryAs, wXf, wXis, wCat, wCatV, wIxV, wDGet, wDIn, wDInT, wDGet2, wDPut, wDisp1, wOwnD, wMD, wForD, wLcD, wFz, wMv, wMinD, gListD, fzS, wDK, wDT, wFldO, wFldS, wMeth, wProp, wLenO, wCallO, wMake, wNewOb, wNewObL, wMethC, gLenD, wDGetV, wPopS, wUpd, wLV, wLI, wForIt, wSortSet, wCallIx, gSortedT, wTabIx, wTree, wForChg, messSlot, wSortLam, wAsgO, startS, List.length_cons, List.length_nil, List.map_cons, List.map_nil, List.getElem?_cons_zero, List.getElem?_cons_succ, List.set_cons_zero, List.set_cons_succ, List.cons_append, List.nil_append, List.append_nil, List.replicate_succ, List.replicate_zero, Nat.reduceAdd, Nat.reduceSub, ↓reduceIte, Bool.false_eq_true, reduceCtorEq, true_and, and_true, true_or, or_true, false_or, or_false, Bool.not_true, Bool.not_false, Bool.true_and, Bool.false_and, Bool.and_true, decide_eq_true_eq, Bool.not_eq_eq_eq_not, exists_eq_left, exists_eq_left', Option.some.injEq, eH, List.all_cons, List.all_nil, notRng, isMut]
  rw [enum_is h 0]
  refine lc_ok (fun (i : Nat) => PyData.tuple [.int ((0 + i : Nat) : Int), .int (gt h i)]) (fun i => decide (0 < gt h i)) eN (List.range h.length) [] True (fun i hi Yes No hy hno => ?_) (by rw [List.length_range]; simp; omega) trivial fun c' hc' => ?_
  · simp only [bl?, g2, gAdd, gDiv, gEq, gGe, gGt, gI, gIn, gInt, gIs, gIsNot, gLe, gLen, gList, gLt, gMM, gMod, gMul, gMulS, gNe, gNotIn, gPow, gSorted, gSub, gIadd, gSum, gTuple, puts, sV, sVs, slotM, wAnd, wApp, wAsg, wAug, wAugI, wB, wC, wCall, wCallR, wChain, wCons, wDraw, wDrop, wEnL, wEnT, wExt, wFn, wFnO, wFor, wGCons, wGNil, wGT, wIL, wIT, wIdx, wIf, wIfS, wIsi, wIx, wLc, wLst, wMNil, wMO, wMV, wMix, wN, wNeg, wNil, wNot, wNotT, wO, wOp, wOr, wOwn, wPar, wR1, wR2, wRaise, wRaiseF, wRet, wSeq, wSet, wSetI, wSkip, wTAnd, wTNot, wTOr, wTru, wTry, wTryF, wTup, wV, wYes, wSplit, wJoin, wRstrip, wFmt, wJNil, wJCons, wJs, gStr, gIntS, wIS, gSignNotIn, wSl, wSlt, wPn, wPs, gMulT, wGL, wTryAs, wXf, wXis, wCat, wCatV, wIxV, wDGet, wDIn, wDInT, wDGet2, wDPut, wDisp1, wOwnD, wMD, wForD, wLcD, wFz, wMv, wMinD, gListD, fzS, wDK, wDT, wFldO, wFldS, wMeth, wProp, wLenO, wCallO, wMake, wNewOb, wNewObL, wMethC, gLenD, wDGetV, wPopS, wUpd, wLV, wLI, wForIt, wSortSet, wCallIx, gSortedT, wTabIx, wTree, wForChg, messSlot, wSortLam, wAsgO, startS, List.length_cons, List.length_nil, List.map_cons, List.map_nil, List.getElem?_cons_zero, List.getElem?_cons_succ, List.set_cons_zero, List.set_cons_succ, List.cons_append, List.nil_append, List.append_nil, List.replicate_succ, List.replicate_zero, Nat.reduceAdd, Nat.reduceSub, ↓reduceIte, Bool.false_eq_true, reduceCtorEq, true_and, and_true, true_or, or_true, false_or, or_false, Bool.not_true, Bool.not_false, Bool.true_and, Bool.false_and, Bool.and_true, decide_eq_true_eq, Bool.not_eq_eq_eq_not, exists_eq_left, exists_eq_left', Option.some.injEq, wipeS, flat_int, Nat.zero_add]
    by_cases c : 0 < gt h i
    · simp only [c, decide_true, startS, List.length_cons, List.length_nil, List.map_cons, List.map_nil, List.getElem?_cons_zero, List.getElem?_cons_succ, List.set_cons_zero, List.set_cons_succ, List.cons_append, List.nil_append, List.append_nil, List.replicate_succ, List.replicate_zero, Nat.reduceAdd, Nat.reduceSub, ↓reduceIte, Bool.false_eq_true, reduceCtorEq, true_and, and_true, true_or, or_true, false_or, or_false, Bool.not_true, Bool.not_false, Bool.true_and, Bool.false_and, Bool.and_true, decide_eq_true_eq, Bool.not_eq_eq_eq_not, exists_eq_left, exists_eq_left', Option.some.injEq]
      exact hy (decide_eq_true c)
    · simp only [c, decide_false, startS, List.length_cons, List.length_nil, List.map_cons, List.map_nil, List.getElem?_cons_zero, List.getElem?_cons_succ, List.set_cons_zero, List.set_cons_succ, List.cons_append, List.nil_append, List.append_nil, List.replicate_succ, List.replicate_zero, Nat.reduceAdd, Nat.reduceSub, ↓reduceIte, Bool.false_eq_true, reduceCtorEq, true_and, and_true, true_or, or_true, false_or, or_false, Bool.not_true, Bool.not_false, Bool.true_and, Bool.false_and, Bool.and_true, decide_eq_true_eq, Bool.not_eq_eq_eq_not, exists_eq_left, exists_eq_left', Option.some.injEq]
      exact hno (decide_eq_false c)
  · obtain ⟨ys, e, pm, so⟩ := sort_is h (fullL h)
    refine ⟨.inl hc', (fullL h).map (fun (i : Nat) => (i : Int)), h, (eN_map _).symm, rfl, fun n hn => ?_, ?_⟩
    · obtain ⟨i, hi, rfl⟩ := List.mem_map.mp hn
      exact ⟨Int.natCast_nonneg i, (mem_full.mp hi).1⟩
    · rw [e, eN_map]
      exact hA ys ⟨pm, so⟩
/-! the round -/
def sp_round_of : Spc := fun ds A _ => ∃ h a b c, ds = [eH h, .list [eN a, eN b, eN c]] ∧ OkR h ∧ Three h a b c ∧ 0 < gt h a ∧ gt h a ≤ gt h b ∧
  ∀ near K : Nat, (near : Int) * (2 * gt h a) ≤ 2 * gt h b + gt h a → 2 * gt h b + gt h a < ((near : Int) + 1) * (2 * gt h a) → 2 ^ K ≤ near → near < 2 ^ (K + 1) → A (.list ((rndP h a b c near K).map eP))

def w_round_of : WS :=
    (wSeq (wAsg (wV 1) (wGL 3 (wGCons (wN 2) (wGCons (wN 3) (wGCons (wN 4) wGNil)))))
    (wSeq (wPar 5 6 (wCons (wIx (wV 0) (wV 2)) (wCons (wIx (wV 0) (wV 3)) wNil)))
    (wSeq (wSet 7 (wOp gDiv (wOp gAdd (wOp gMul (wC (.int 2)) (wV 6)) (wV 5)) (wOp gMul (wC (.int 2)) (wV 5))))
    (wSeq (wOwn 8 (wLst wNil))
    (wSeq (wSet 9 (wV 7))
    (wSeq (wWh (wB (wOp gGt (wV 9) (wC (.int 0)))) (wSeq (wSet 10 (wV 4))
    (wSeq (wIfS (wB (wOp gEq (wOp gMod (wV 9) (wC (.int 2))) (wC (.int 1)))) (wSet 10 (wV 3)) wSkip)
    (wSeq (wApp 8 (wTup (wCons (wV 10) (wCons (wV 2) wNil))))
    (wAug 9 gDiv (wC (.int 2)))))))
    (wSeq (wIfS (wB (wOp gGt (wOp gMul (wV 7) (wV 5)) (wV 6))) (wSetI 8 (wTup (wCons (wV 2) (wCons (wV 3) wNil))) (wNeg (wC (.int 1)))) wSkip)
    (wRet (wV 8)))))))))
theorem rnd_top {a b c near K : Nat} (k1 : 2 ^ K ≤ near) (k2 : near < 2 ^ (K + 1)) : rnd a b c (K + 1) near = rnd a b c K near ++ [(b, a)] := by
  have e : near / 2 ^ K = 1 := by
    rw [Nat.pow_succ] at k2
    exact Nat.div_eq_of_lt_le (by omega) (by omega)
  rw [rnd_snoc, e]
  rfl
theorem pure_round_of : Pure 11 2 sp_round_of w_round_of := by
  rintro ds A B - ⟨h, a, b, c, rfl, R, t, h0, h1, hA⟩
  have sa := gt_small R a
  have sb := gt_small R b
  have bv := big_v
  have la := t.la
  have lb := t.lb
  simp only [w_round_of, bl?, g2, gAdd, gDiv, gEq, gGe, gGt, gI, gIn, gInt, gIs, gIsNot, gLe, gLen, gList, gLt, gMM, gMod, gMul, gMulS, gNe, gNotIn, gPow, gSorted, gSub, gIadd, gSum, gTuple, puts, sV, sVs, slotM, wAnd, wApp, wAsg, wAug, wAugI, wB, wC, wCall, wCallR, wChain, wCons, wDraw, wDrop, wEnL, wEnT, wExt, wFn, wFnO, wFor, wGCons, wGNil, wGT, wIL, wIT, wIdx, wIf, wIfS, wIsi, wIx, wLc, wLst, wMNil, wMO, wMV, wMix, wN, wNeg, wNil, wNot, wNotT, wO, wOp, wOr, wOwn, wPar, wR1, wR2, wRaise, wRaiseF, wRet, wSeq, wSet, wSetI, wSkip, wTAnd, wTNot, wTOr, wTru, wTry, wTryF, wTup, wV, wYes, wSplit, wJoin, wRstrip, wFmt, wJNil, wJCons, wJs, gStr, gIntS, wIS, gSignNotIn, wSl, wSlt, wPn, wPs, gMulT, wGL, wTryAs, wXf, wXis, wCat, wCatV, wIxV, wDGet, wDIn, wDInT, wDGet2, wDPut, wDisp1, wOwnD, wMD, wForD, wLcD, wFz, wMv, wMinD, gListD, fzS, wDK, wDT, wFldO, wFldS, wMeth, wProp, wLenO, wCallO, wMake, wNewOb, wNewObL, wMethC, gLenD, wDGetV, wPopS, wUpd, wLV, wLI, wForIt, wSortSet, wCallIx, gSortedT, wTabIx, wTree, wForChg, messSlot, wSortLam, wAsgO, startS, List.length_cons, List.length_nil, List.map_cons, List.map_nil, List.getElem?_cons_zero, List.getElem?_cons_succ, List.set_cons_zero, List.set_cons_succ, List.cons_append, List.nil_append, List.append_nil, List.replicate_succ, List.replicate_zero, Nat.reduceAdd, Nat.reduceSub, ↓reduceIte, Bool.false_eq_true, reduceCtorEq, true_and, and_true, true_or, or_true, false_or, or_false, Bool.not_true, Bool.not_false, Bool.true_and, Bool.false_and, Bool.and_true, decide_eq_true_eq, Bool.not_eq_eq_eq_not, exists_eq_left, exists_eq_left', Option.some.injEq, eH, eN, flat_int, at_gt la, at_gt lb, flats, flat, Bool.and_self, List.all_cons, List.all_nil, notRng, isMut]
  obtain ⟨near, en⟩ : ∃ near : Nat, (2 * gt h b + gt h a) / (2 * gt h a) = (near : Int) := Int.eq_ofNat_of_zero_le (Int.ediv_nonneg (by omega) (by omega))
  have n1 : (near : Int) * (2 * gt h a) ≤ 2 * gt h b + gt h a := by
    rw [← en]; exact Int.ediv_mul_le _ (by omega)
  have n2 : 2 * gt h b + gt h a < ((near : Int) + 1) * (2 * gt h a) := by
    rw [← en]; exact Int.lt_ediv_add_one_mul_self _ (by omega)
  have nl := near_le h0 h1 n1
  have np : near ≠ 0 := fun z => by
    rw [z] at n2
    simp at n2
    omega
  have k1 := Nat.log2_self_le np
  have k2 := @Nat.lt_log2_self near
  have hA := hA near near.log2 n1 n2 k1 k2
  generalize near.log2 = K at k1 k2 hA
  refine ⟨mulZ (by decide) (by decide) sb.1 (by omega), mulZ (by decide) (by decide) sa.1 (by omega), divZ (by omega) (by omega), ?_⟩
  rw [en]
  refine ⟨by decide, near + 1, wh_ok (fun (s : Nat) S => ∃ acc k s10, S = [.im (.tuple (h.map .int)), .im (.list [.int (a : Int), .int (b : Int), .int (c : Int)]), .im (.int (a : Int)), .im (.int (b : Int)), .im (.int (c : Int)), .im (.int (gt h a)), .im (.int (gt h b)), .im (.int (near : Int)), .ol (acc.map eP), .im (.int (s : Int)), s10] ∧
    acc ++ rnd a b c k s = rnd a b c (K + 1) near ∧ acc.length + k = K + 1 ∧ s < 2 ^ k ∧ (0 < k → 2 ^ (k - 1) ≤ s)) (fun s => s) ?_ (near + 1) near _ (Nat.lt_succ_self near) ⟨[], K + 1, _, rfl, rfl, by simp, k2, fun _ => k1⟩⟩
  rintro s S ⟨acc, k, s10, rfl, e1, e2, e3, e4⟩ Nx hN
  have kl : K + 1 ≤ 110 := by
    rcases Nat.lt_or_ge 110 (K + 1) with c | c
    · have : 2 ^ 110 ≤ 2 ^ K := Nat.pow_le_pow_right (by decide) (by omega)
      have e : (2 : Nat) ^ 110 = 1298074214633706907132624082305024 := by decide
      omega
    · exact c
  have e5 : ((s : Int).fmod 2) = ((s % 2 : Nat) : Int) := fmod_nat s 2
  have e6 : ((s : Int) / 2) = ((s / 2 : Nat) : Int) := rfl
  have d2 : CDivW (s : Int) 2 := ⟨by decide, by decide⟩
  have hlen : (List.map eP acc).length < sizeLine := by rw [List.length_map, sizeLine_eq]; omega
  by_cases c0 : 0 < s
  · have c1 : (0 : Int) < s := by omega
    have k0 : 0 < k := by
      rcases Nat.eq_zero_or_pos k with z | z
      · subst z
        simp at e3
        omega
      · exact z
    obtain ⟨k, rfl⟩ : ∃ j, k = j + 1 := ⟨k - 1, by omega⟩
    have e4 := e4 k0
    rw [Nat.add_sub_cancel] at e4
    rw [Nat.pow_succ] at e3
    have nx : ∀ (v : Nat), v = (if s % 2 = 1 then b else c) → Nx [.im (.tuple (h.map .int)), .im (.list [.int (a : Int), .int (b : Int), .int (c : Int)]), .im (.int (a : Int)), .im (.int (b : Int)), .im (.int (c : Int)), .im (.int (gt h a)), .im (.int (gt h b)), .im (.int (near : Int)), .ol (acc.map eP ++ [PyData.tuple [.int (v : Int), .int (a : Int)]]), .im (.int ((s / 2 : Nat) : Int)), .im (.int (v : Int))] := fun v hv => by
      refine hN (s / 2) _ (by omega) ⟨acc ++ [(v, a)], k, _, by rw [List.map_append]; rfl, ?_, by rw [List.length_append]; simp; omega, by omega, fun kp => ?_⟩
      · rw [← e1, List.append_assoc, hv]
        rfl
      · obtain ⟨k, rfl⟩ : ∃ j, k = j + 1 := ⟨k - 1, by omega⟩
        rw [Nat.pow_succ] at e4
        rw [Nat.add_sub_cancel]
        omega
    by_cases o : s % 2 = 1
    · have o' : (((s % 2 : Nat) : Int) = 1) := by omega
      rw [if_pos o] at nx
      simp only [bl?, g2, gAdd, gDiv, gEq, gGe, gGt, gI, gIn, gInt, gIs, gIsNot, gLe, gLen, gList, gLt, gMM, gMod, gMul, gMulS, gNe, gNotIn, gPow, gSorted, gSub, gIadd, gSum, gTuple, puts, sV, sVs, slotM, wAnd, wApp, wAsg, wAug, wAugI, wB, wC, wCall, wCallR, wChain, wCons, wDraw, wDrop, wEnL, wEnT, wExt, wFn, wFnO, wFor, wGCons, wGNil, wGT, wIL, wIT, wIdx, wIf, wIfS, wIsi, wIx, wLc, wLst, wMNil, wMO, wMV, wMix, wN, wNeg, wNil, wNot, wNotT, wO, wOp, wOr, wOwn, wPar, wR1, wR2, wRaise, wRaiseF, wRet, wSeq, wSet, wSetI, wSkip, wTAnd, wTNot, wTOr, wTru, wTry, wTryF, wTup, wV, wYes, wSplit, wJoin, wRstrip, wFmt, wJNil, wJCons, wJs, gStr, gIntS, wIS, gSignNotIn, wSl, wSlt, wPn, wPs, gMulT, wGL, wTryAs, wXf, wXis, wCat, wCatV, wIxV, wDGet, wDIn, wDInT, wDGet2, wDPut, wDisp1, wOwnD, wMD, wForD, wLcD, wFz, wMv, wMinD, gListD, fzS, wDK, wDT, wFldO, wFldS, wMeth, wProp, wLenO, wCallO, wMake, wNewOb, wNewObL, wMethC, gLenD, wDGetV, wPopS, wUpd, wLV, wLI, wForIt, wSortSet, wCallIx, gSortedT, wTabIx, wTree, wForChg, messSlot, wSortLam, wAsgO, startS, List.length_cons, List.length_nil, List.map_cons, List.map_nil, List.getElem?_cons_zero, List.getElem?_cons_succ, List.set_cons_zero, List.set_cons_succ, List.cons_append, List.nil_append, List.append_nil, List.replicate_succ, List.replicate_zero, Nat.reduceAdd, Nat.reduceSub, ↓reduceIte, Bool.false_eq_true, reduceCtorEq, true_and, and_true, true_or, or_true, false_or, or_false, Bool.not_true, Bool.not_false, Bool.true_and, Bool.false_and, Bool.and_true, decide_eq_true_eq, Bool.not_eq_eq_eq_not, exists_eq_left, exists_eq_left', Option.some.injEq, c1, decide_true, e5, e6, o', shaped_int, eqv_int, flat_int, hlen, flat, flats, Bool.and_self]
      exact ⟨by decide, ⟨_, rfl⟩, by decide, d2, nx b rfl⟩
    · have o' : ¬ (((s % 2 : Nat) : Int) = 1) := by omega
      rw [if_neg o] at nx
      simp only [bl?, g2, gAdd, gDiv, gEq, gGe, gGt, gI, gIn, gInt, gIs, gIsNot, gLe, gLen, gList, gLt, gMM, gMod, gMul, gMulS, gNe, gNotIn, gPow, gSorted, gSub, gIadd, gSum, gTuple, puts, sV, sVs, slotM, wAnd, wApp, wAsg, wAug, wAugI, wB, wC, wCall, wCallR, wChain, wCons, wDraw, wDrop, wEnL, wEnT, wExt, wFn, wFnO, wFor, wGCons, wGNil, wGT, wIL, wIT, wIdx, wIf, wIfS, wIsi, wIx, wLc, wLst, wMNil, wMO, wMV, wMix, wN, wNeg, wNil, wNot, wNotT, wO, wOp, wOr, wOwn, wPar, wR1, wR2, wRaise, wRaiseF, wRet, wSeq, wSet, wSetI, wSkip, wTAnd, wTNot, wTOr, wTru, wTry, wTryF, wTup, wV, wYes, wSplit, wJoin, wRstrip, wFmt, wJNil, wJCons, wJs, gStr, gIntS, wIS, gSignNotIn, wSl, wSlt, wPn, wPs, gMulT, wGL, wTryAs, wXf, wXis, wCat, wCatV, wIxV, wDGet, wDIn, wDInT, wDGet2, wDPut, wDisp1, wOwnD, wMD, wForD, wLcD, wFz, wMv, wMinD, gListD, fzS, wDK, wDT, wFldO, wFldS, wMeth, wProp, wLenO, wCallO, wMake, wNewOb, wNewObL, wMethC, gLenD, wDGetV, wPopS, wUpd, wLV, wLI, wForIt, wSortSet, wCallIx, gSortedT, wTabIx, wTree, wForChg, messSlot, wSortLam, wAsgO, startS, List.length_cons, List.length_nil, List.map_cons, List.map_nil, List.getElem?_cons_zero, List.getElem?_cons_succ, List.set_cons_zero, List.set_cons_succ, List.cons_append, List.nil_append, List.append_nil, List.replicate_succ, List.replicate_zero, Nat.reduceAdd, Nat.reduceSub, ↓reduceIte, Bool.false_eq_true, reduceCtorEq, true_and, and_true, true_or, or_true, false_or, or_false, Bool.not_true, Bool.not_false, Bool.true_and, Bool.false_and, Bool.and_true, decide_eq_true_eq, Bool.not_eq_eq_eq_not, exists_eq_left, exists_eq_left', Option.some.injEq, c1, decide_true, e5, e6, o', decide_false, shaped_int, eqv_int, flat_int, hlen, flat, flats, Bool.and_self]
      exact ⟨by decide, ⟨_, rfl⟩, by decide, d2, nx c rfl⟩
  · have c1 : ¬ (0 : Int) < s := by omega
    have k0 : k = 0 := by
      rcases Nat.eq_zero_or_pos k with z | z
      · exact z
      · have := e4 z
        have := Nat.two_pow_pos (k - 1)
        omega
    subst k0
    have ea : acc = rnd a b c K near ++ [(b, a)] := by
      rw [rnd_top k1 k2] at e1
      simpa [rnd] using e1
    subst ea
    simp only [bl?, g2, gAdd, gDiv, gEq, gGe, gGt, gI, gIn, gInt, gIs, gIsNot, gLe, gLen, gList, gLt, gMM, gMod, gMul, gMulS, gNe, gNotIn, gPow, gSorted, gSub, gIadd, gSum, gTuple, puts, sV, sVs, slotM, wAnd, wApp, wAsg, wAug, wAugI, wB, wC, wCall, wCallR, wChain, wCons, wDraw, wDrop, wEnL, wEnT, wExt, wFn, wFnO, wFor, wGCons, wGNil, wGT, wIL, wIT, wIdx, wIf, wIfS, wIsi, wIx, wLc, wLst, wMNil, wMO, wMV, wMix, wN, wNeg, wNil, wNot, wNotT, wO, wOp, wOr, wOwn, wPar, wR1, wR2, wRaise, wRaiseF, wRet, wSeq, wSet, wSetI, wSkip, wTAnd, wTNot, wTOr, wTru, wTry, wTryF, wTup, wV, wYes, wSplit, wJoin, wRstrip, wFmt, wJNil, wJCons, wJs, gStr, gIntS, wIS, gSignNotIn, wSl, wSlt, wPn, wPs, gMulT, wGL, wTryAs, wXf, wXis, wCat, wCatV, wIxV, wDGet, wDIn, wDInT, wDGet2, wDPut, wDisp1, wOwnD, wMD, wForD, wLcD, wFz, wMv, wMinD, gListD, fzS, wDK, wDT, wFldO, wFldS, wMeth, wProp, wLenO, wCallO, wMake, wNewOb, wNewObL, wMethC, gLenD, wDGetV, wPopS, wUpd, wLV, wLI, wForIt, wSortSet, wCallIx, gSortedT, wTabIx, wTree, wForChg, messSlot, wSortLam, wAsgO, startS, List.length_cons, List.length_nil, List.map_cons, List.map_nil, List.getElem?_cons_zero, List.getElem?_cons_succ, List.set_cons_zero, List.set_cons_succ, List.cons_append, List.nil_append, List.append_nil, List.replicate_succ, List.replicate_zero, Nat.reduceAdd, Nat.reduceSub, ↓reduceIte, Bool.false_eq_true, reduceCtorEq, true_and, and_true, true_or, or_true, false_or, or_false, Bool.not_true, Bool.not_false, Bool.true_and, Bool.false_and, Bool.and_true, decide_eq_true_eq, Bool.not_eq_eq_eq_not, exists_eq_left, exists_eq_left', Option.some.injEq, c1, decide_false]
    refine ⟨mulZ (by omega) (by omega) sa.1 (by omega), ?_⟩
    unfold rndP at hA
    by_cases c2 : (near : Int) * gt h a > gt h b
    · rw [if_pos c2] at hA
      rw [if_pos c2]
      have hl : (List.map eP (rnd a b c K near ++ [(b, a)])).length = (rnd a b c K near).length + 1 := by rw [List.length_map, List.length_append]; rfl
      refine ⟨by decide, ⟨_, rfl⟩, (rnd a b c K near).length, ?_, ?_⟩
      · rw [hl]
        unfold ixN
        rw [if_neg (by omega), if_pos (by omega)]
        congr 1
        omega
      · have e : (List.map eP (rnd a b c K near ++ [(b, a)])).set (rnd a b c K near).length (PyData.tuple [.int (a : Int), .int (b : Int)]) = List.map eP (rnd a b c K near ++ [(a, b)]) := by
          rw [List.map_append, List.map_append, List.set_append_right _ _ (by rw [List.length_map]; exact Nat.le_refl _), List.length_map, Nat.sub_self]
          rfl
        rw [e]
        exact hA
    · rw [if_neg c2] at hA
      rw [if_neg c2]
      exact hA
/-! three heaps until one is empty -/
structure EmpR (h : List Int) (x y z : Nat) (g : List Int) (p : List (Nat × Nat)) : Prop where
  ru : runs h p g
  em : gt g x = 0 ∨ gt g y = 0 ∨ gt g z = 0
  ot : ∀ i, i ≠ x → i ≠ y → i ≠ z → gt g i = gt h i
  le : ∀ F : Nat, h.sum < ((2 ^ F : Nat) : Int) → p.length ≤ F * F
def mn3 (g : List Int) (x y z : Nat) : Int := min (min (gt g x) (gt g y)) (gt g z)
theorem three_perm {x y z : Nat} {ys : List Nat} (h : ys.Perm [x, y, z]) : ∃ a b c, ys = [a, b, c] := by
  have l := h.length_eq
  match ys, l with
  | [a, b, c], _ => exact ⟨a, b, c, rfl⟩
theorem three_of {h : List Int} {x y z a b c : Nat} (t : Three h x y z) (p : [a, b, c].Perm [x, y, z]) : Three h a b c ∧ (∀ i, i ≠ x → i ≠ y → i ≠ z → i ≠ a ∧ i ≠ b ∧ i ≠ c) ∧ (∀ i, i ≠ a → i ≠ b → i ≠ c → i ≠ x ∧ i ≠ y ∧ i ≠ z) ∧
    (mn3 h a b c = mn3 h x y z) := by
  have ma : ∀ i, i ∈ [a, b, c] ↔ i ∈ [x, y, z] := fun i => p.mem_iff
  have nd : [x, y, z].Nodup := by
    have h1 := t.ab
    have h2 := t.ac
    have h3 := t.bc
    simp [h1, h2, h3]
  have nd2 := p.nodup_iff.mpr nd
  simp at nd2
  have ha := ma a
  have hb := ma b
  have hc := ma c
  have hx := ma x
  have hy := ma y
  have hz := ma z
  simp at ha hb hc hx hy hz
  have t1 := t.la
  have t2 := t.lb
  have t3 := t.lc
  have lt : ∀ i, i = x ∨ i = y ∨ i = z → i < h.length := fun i q => by
    rcases q with q | q | q <;> (rw [q]; assumption)
  refine ⟨⟨lt a ha, lt b hb, lt c hc, nd2.1.1, nd2.1.2, nd2.2⟩, fun i h1 h2 h3 => by omega, fun i h1 h2 h3 => by omega, ?_⟩
  unfold mn3
  rcases ha with ha | ha | ha <;> rcases hb with hb | hb | hb <;> rcases hc with hc | hc | hc <;> subst ha <;> subst hb <;> subst hc <;> first | omega | skip
def sp_emptied : Spc := fun ds A _ => ∃ h x y z, ds = [eH h, .list [eN x, eN y, eN z]] ∧ OkR h ∧ Three h x y z ∧ ∀ g p, EmpR h x y z g p → A (.tuple [eH g, .list (p.map eP)])

def w_emptied : WS :=
    (wSeq (wOwn 2 (wLst wNil))
    (wSeq (wWh (wB (wOp gGt (wFn (gMM min) (wCons (wO (wLc (wIL (wV 1)) (wN 3) wYes (wIx (wV 0) (wV 3)) [3])) wNil)) (wC (.int 0)))) (wSeq (wSet 4 (wO (wSortLam 0 (wV 1))))
    (wFor (wIL (wCall sp_round_of (wCons (wV 0) (wCons (wV 4) wNil)))) (wN 5) (wSeq (wSet 0 (wCall sp_behind (wCons (wV 0) (wCons (wV 5) wNil))))
    (wApp 2 (wV 5))))))
    (wRet (wTup (wCons (wV 0) (wCons (wV 2) wNil))))))
theorem round_use {h : List Int} {a b c : Nat} {A : PyData → Prop} {B : XC → Prop} (o : OkR h) (t : Three h a b c) (h0 : 0 < gt h a) (h1 : gt h a ≤ gt h b) (h2 : gt h b ≤ gt h c)
    (hA : ∀ g p, runs h p g → (2 * gt g a ≤ gt h a ∨ 2 * gt g b ≤ gt h a) → (∀ i, i ≠ a → i ≠ b → i ≠ c → gt g i = gt h i) → (∀ F : Nat, h.sum < ((2 ^ F : Nat) : Int) → p.length ≤ F) → A (.list (p.map eP))) : sp_round_of [eH h, .list [eN a, eN b, eN c]] A B := by
  refine ⟨h, a, b, c, rfl, o, t, h0, h1, fun near K n1 n2 k1 k2 => ?_⟩
  obtain ⟨g, r, q, ot⟩ := round_runs t h0 h1 h2 n1 n2 k1 k2
  refine hA g _ r q ot fun F hF => ?_
  have nl := near_le h0 h1 n1
  have bs := (gt_le_sum o.nn).2 b
  have kF : K < F := by
    rcases Nat.lt_or_ge K F with z | z
    · exact z
    · have := Nat.pow_le_pow_right (n := 2) (by decide) z
      omega
  unfold rndP
  rw [List.length_append, rnd_len]
  exact kF
theorem pure_emptied : Pure 6 2 sp_emptied w_emptied := by
  rintro ds A B - ⟨h, x, y, z, rfl, R, t, hA⟩
  have h103 := s103 R
  simp only [w_emptied, bl?, g2, gAdd, gDiv, gEq, gGe, gGt, gI, gIn, gInt, gIs, gIsNot, gLe, gLen, gList, gLt, gMM, gMod, gMul, gMulS, gNe, gNotIn, gPow, gSorted, gSub, gIadd, gSum, gTuple, puts, sV, sVs, slotM, wAnd, wApp, wAsg, wAug, wAugI, wB, wC, wCall, wCallR, wChain, wCons, wDraw, wDrop, wEnL, wEnT, wExt, wFn, wFnO, wFor, wGCons, wGNil, wGT, wIL, wIT, wIdx, wIf, wIfS, wIsi, wIx, wLc, wLst, wMNil, wMO, wMV, wMix, wN, wNeg, wNil, wNot, wNotT, wO, wOp, wOr, wOwn, wPar, wR1, wR2, wRaise, wRaiseF, wRet, wSeq, wSet, wSetI, wSkip, wTAnd, wTNot, wTOr, wTru, wTry, wTryF, wTup, wV, wYes, wSplit, wJoin, wRstrip, wFmt, wJNil, wJCons, wJs, gStr, gIntS, wIS, gSignNotIn, wSl, wSlt, wPn, wPs, gMulT, wGL, wTryAs, wXf, wXis, wCat, wCatV, wIxV, wDGet, wDIn, wDInT, wDGet2, wDPut, wDisp1, wOwnD, wMD, wForD, wLcD, wFz, wMv, wMinD, gListD, fzS, wDK, wDT, wFldO, wFldS, wMeth, wProp, wLenO, wCallO, wMake, wNewOb, wNewObL, wMethC, gLenD, wDGetV, wPopS, wUpd, wLV, wLI, wForIt, wSortSet, wCallIx, gSortedT, wTabIx, wTree, wForChg, messSlot, wSortLam, wAsgO, startS, List.length_cons, List.length_nil, List.map_cons, List.map_nil, List.getElem?_cons_zero, List.getElem?_cons_succ, List.set_cons_zero, List.set_cons_succ, List.cons_append, List.nil_append, List.append_nil, List.replicate_succ, List.replicate_zero, Nat.reduceAdd, Nat.reduceSub, ↓reduceIte, Bool.false_eq_true, reduceCtorEq, true_and, and_true, true_or, or_true, false_or, or_false, Bool.not_true, Bool.not_false, Bool.true_and, Bool.false_and, Bool.and_true, decide_eq_true_eq, Bool.not_eq_eq_eq_not, exists_eq_left, exists_eq_left', Option.some.injEq, eH, eN, flat_int, flats, flat]
  refine ⟨by decide, (mn3 h x y z).toNat + 1, wh_ok (fun (g : List Int) S => ∃ p k s3 s4 s5, S = [.im (.tuple (g.map .int)), .im (.list [.int (x : Int), .int (y : Int), .int (z : Int)]), .ol (p.map eP), s3, s4, s5] ∧ notRng (some s3) = true ∧ notRng (some s4) = true ∧ notRng (some s5) = true ∧
    runs h p g ∧ (∀ i, i ≠ x → i ≠ y → i ≠ z → gt g i = gt h i) ∧ mn3 g x y z * ((2 ^ k : Nat) : Int) ≤ h.sum ∧ ∀ F : Nat, h.sum < ((2 ^ F : Nat) : Int) → k ≤ F ∧ p.length ≤ k * F) (fun g => (mn3 g x y z).toNat) ?_ _ h _ (Nat.lt_succ_self _)
    ⟨[], 0, _, _, _, rfl, rfl, rfl, rfl, rfl, fun _ _ _ _ => rfl, ?_, fun F _ => ⟨Nat.zero_le _, by simp⟩⟩⟩
  · rintro g S ⟨p, k, s3, s4, s5, rfl, n3, n4, n5, hr, ho, hm, hF⟩ Nx hN
    have Rg := R.runs hr
    have lg := runs_len hr
    have tg : Three g x y z := ⟨by rw [lg]; exact t.la, by rw [lg]; exact t.lb, by rw [lg]; exact t.lc, t.ab, t.ac, t.bc⟩
    have sg := runs_sum hr
    obtain ⟨k103, p103⟩ := hF 103 h103
    have lx := tg.la
    have ly := tg.lb
    have lz := tg.lc
    simp only [bl?, g2, gAdd, gDiv, gEq, gGe, gGt, gI, gIn, gInt, gIs, gIsNot, gLe, gLen, gList, gLt, gMM, gMod, gMul, gMulS, gNe, gNotIn, gPow, gSorted, gSub, gIadd, gSum, gTuple, puts, sV, sVs, slotM, wAnd, wApp, wAsg, wAug, wAugI, wB, wC, wCall, wCallR, wChain, wCons, wDraw, wDrop, wEnL, wEnT, wExt, wFn, wFnO, wFor, wGCons, wGNil, wGT, wIL, wIT, wIdx, wIf, wIfS, wIsi, wIx, wLc, wLst, wMNil, wMO, wMV, wMix, wN, wNeg, wNil, wNot, wNotT, wO, wOp, wOr, wOwn, wPar, wR1, wR2, wRaise, wRaiseF, wRet, wSeq, wSet, wSetI, wSkip, wTAnd, wTNot, wTOr, wTru, wTry, wTryF, wTup, wV, wYes, wSplit, wJoin, wRstrip, wFmt, wJNil, wJCons, wJs, gStr, gIntS, wIS, gSignNotIn, wSl, wSlt, wPn, wPs, gMulT, wGL, wTryAs, wXf, wXis, wCat, wCatV, wIxV, wDGet, wDIn, wDInT, wDGet2, wDPut, wDisp1, wOwnD, wMD, wForD, wLcD, wFz, wMv, wMinD, gListD, fzS, wDK, wDT, wFldO, wFldS, wMeth, wProp, wLenO, wCallO, wMake, wNewOb, wNewObL, wMethC, gLenD, wDGetV, wPopS, wUpd, wLV, wLI, wForIt, wSortSet, wCallIx, gSortedT, wTabIx, wTree, wForChg, messSlot, wSortLam, wAsgO, startS, List.length_cons, List.length_nil, List.map_cons, List.map_nil, List.getElem?_cons_zero, List.getElem?_cons_succ, List.set_cons_zero, List.set_cons_succ, List.cons_append, List.nil_append, List.append_nil, List.replicate_succ, List.replicate_zero, Nat.reduceAdd, Nat.reduceSub, ↓reduceIte, Bool.false_eq_true, reduceCtorEq, true_and, and_true, true_or, or_true, false_or, or_false, Bool.not_true, Bool.not_false, Bool.true_and, Bool.false_and, Bool.and_true, decide_eq_true_eq, Bool.not_eq_eq_eq_not, exists_eq_left, exists_eq_left', Option.some.injEq, List.all_cons, List.all_nil, n3]
    refine lc_ok (xs := [x, y, z]) eN (fun _ => true) (fun i => PyData.int (gt g i)) [] True (fun i hi Yes No hy hno => ?_) (show 0 + 3 ≤ _ by decide) trivial fun c' hc' => ?_
    · have li : i < g.length := by
        simp at hi
        rcases hi with q | q | q <;> (rw [q]; assumption)
      simp only [bl?, g2, gAdd, gDiv, gEq, gGe, gGt, gI, gIn, gInt, gIs, gIsNot, gLe, gLen, gList, gLt, gMM, gMod, gMul, gMulS, gNe, gNotIn, gPow, gSorted, gSub, gIadd, gSum, gTuple, puts, sV, sVs, slotM, wAnd, wApp, wAsg, wAug, wAugI, wB, wC, wCall, wCallR, wChain, wCons, wDraw, wDrop, wEnL, wEnT, wExt, wFn, wFnO, wFor, wGCons, wGNil, wGT, wIL, wIT, wIdx, wIf, wIfS, wIsi, wIx, wLc, wLst, wMNil, wMO, wMV, wMix, wN, wNeg, wNil, wNot, wNotT, wO, wOp, wOr, wOwn, wPar, wR1, wR2, wRaise, wRaiseF, wRet, wSeq, wSet, wSetI, wSkip, wTAnd, wTNot, wTOr, wTru, wTry, wTryF, wTup, wV, wYes, wSplit, wJoin, wRstrip, wFmt, wJNil, wJCons, wJs, gStr, gIntS, wIS, gSignNotIn, wSl, wSlt, wPn, wPs, gMulT, wGL, wTryAs, wXf, wXis, wCat, wCatV, wIxV, wDGet, wDIn, wDInT, wDGet2, wDPut, wDisp1, wOwnD, wMD, wForD, wLcD, wFz, wMv, wMinD, gListD, fzS, wDK, wDT, wFldO, wFldS, wMeth, wProp, wLenO, wCallO, wMake, wNewOb, wNewObL, wMethC, gLenD, wDGetV, wPopS, wUpd, wLV, wLI, wForIt, wSortSet, wCallIx, gSortedT, wTabIx, wTree, wForChg, messSlot, wSortLam, wAsgO, startS, List.length_cons, List.length_nil, List.map_cons, List.map_nil, List.getElem?_cons_zero, List.getElem?_cons_succ, List.set_cons_zero, List.set_cons_succ, List.cons_append, List.nil_append, List.append_nil, List.replicate_succ, List.replicate_zero, Nat.reduceAdd, Nat.reduceSub, ↓reduceIte, Bool.false_eq_true, reduceCtorEq, true_and, and_true, true_or, or_true, false_or, or_false, Bool.not_true, Bool.not_false, Bool.true_and, Bool.false_and, Bool.and_true, decide_eq_true_eq, Bool.not_eq_eq_eq_not, exists_eq_left, exists_eq_left', Option.some.injEq, wipeS, eN, at_gt li, flat_int]
      exact hy rfl
    · have ef : ([] ++ List.map (fun i => PyData.int (gt g i)) (List.filter (fun _ => true) [x, y, z])) = [PyData.int (gt g x), .int (gt g y), .int (gt g z)] := by simp
      rw [ef]
      refine ⟨gt g x, [gt g y, gt g z], ints?_map [gt g x, gt g y, gt g z], ?_⟩
      have em : List.foldl min (gt g x) [gt g y, gt g z] = mn3 g x y z := rfl
      rw [em]
      have nx := Rg.nn x
      have ny := Rg.nn y
      have nz := Rg.nn z
      by_cases c0 : 0 < mn3 g x y z
      · simp only [c0, decide_true, startS, List.length_cons, List.length_nil, List.map_cons, List.map_nil, List.getElem?_cons_zero, List.getElem?_cons_succ, List.set_cons_zero, List.set_cons_succ, List.cons_append, List.nil_append, List.append_nil, List.replicate_succ, List.replicate_zero, Nat.reduceAdd, Nat.reduceSub, ↓reduceIte, Bool.false_eq_true, reduceCtorEq, true_and, and_true, true_or, or_true, false_or, or_false, Bool.not_true, Bool.not_false, Bool.true_and, Bool.false_and, Bool.and_true, decide_eq_true_eq, Bool.not_eq_eq_eq_not, exists_eq_left, exists_eq_left', Option.some.injEq]
        obtain ⟨ys, ey, pm, so⟩ := sort_is g [x, y, z]
        obtain ⟨a, b, c, rfl⟩ := three_perm pm
        obtain ⟨ta, o1, o2, em2⟩ := three_of tg pm
        simp at so
        have m1 : mn3 g a b c = gt g a := by unfold mn3; omega
        rw [← em2, m1] at hm c0
        refine ⟨[(x : Int), y, z], g, rfl, rfl, fun n hn => ?_, ?_⟩
        · simp at hn
          rcases hn with q | q | q <;> (rw [q]; exact ⟨Int.natCast_nonneg _, by assumption⟩)
        have e2 : ([(x : Int), (y : Int), (z : Int)]).mergeSort (leK g) = [(a : Int), (b : Int), (c : Int)] := ey
        rw [e2]
        refine round_use Rg ta c0 so.1.1 so.2 fun gE q r2 hh ot2 hq => ?_
        have q103 := hq 103 (by rw [sg]; exact h103)
        have k1 : ∀ F : Nat, h.sum < ((2 ^ F : Nat) : Int) → k + 1 ≤ F := fun F hF2 => by
          rcases Nat.lt_or_ge k F with c | c
          · exact c
          · have e1 : ((2 ^ F : Nat) : Int) ≤ ((2 ^ k : Nat) : Int) := by
              have := Nat.pow_le_pow_right (n := 2) (by decide) c
              omega
            have e2 := Int.mul_le_mul_of_nonneg_right (a := (1 : Int)) (b := gt g a) (c := ((2 ^ k : Nat) : Int)) (by omega) (Int.natCast_nonneg _)
            rw [Int.one_mul] at e2
            omega
        have k103' := k1 103 h103
        have hl : p.length + q.length ≤ 20000 := by
          have : k * 103 ≤ 102 * 103 := Nat.mul_le_mul_right _ (by omega)
          omega
        show forL _ _ _ _ (q.map eP) _
        refine for_inv (fun r S => ∃ g' p' q' s3 s4 s5, r = q'.map eP ∧ S = [.im (.tuple (g'.map .int)), .im (.list [.int (x : Int), .int (y : Int), .int (z : Int)]), .ol (p'.map eP), s3, s4, s5] ∧ notRng (some s3) = true ∧ notRng (some s4) = true ∧ notRng (some s5) = true ∧
          runs h p' g' ∧ runs g' q' gE ∧ p'.length + q'.length = p.length + q.length) _ _ ?_ ⟨g, p, q, _, _, _, rfl, rfl, n3, rfl, n5, hr, r2, rfl⟩ ?_
        · rintro d r S ⟨g', p', q', s3, s4, s5, er, rfl, n3, n4, n5, w1, w2, wl⟩ Nx2 hN2
          cases q' with
          | nil => cases er
          | cons s q' =>
            cases er
            obtain ⟨os, cs, w3⟩ := w2
            have lp : (List.map eP p').length < sizeLine := by rw [List.length_map, sizeLine_eq]; rw [List.length_cons] at wl; omega
            simp only [bl?, g2, gAdd, gDiv, gEq, gGe, gGt, gI, gIn, gInt, gIs, gIsNot, gLe, gLen, gList, gLt, gMM, gMod, gMul, gMulS, gNe, gNotIn, gPow, gSorted, gSub, gIadd, gSum, gTuple, puts, sV, sVs, slotM, wAnd, wApp, wAsg, wAug, wAugI, wB, wC, wCall, wCallR, wChain, wCons, wDraw, wDrop, wEnL, wEnT, wExt, wFn, wFnO, wFor, wGCons, wGNil, wGT, wIL, wIT, wIdx, wIf, wIfS, wIsi, wIx, wLc, wLst, wMNil, wMO, wMV, wMix, wN, wNeg, wNil, wNot, wNotT, wO, wOp, wOr, wOwn, wPar, wR1, wR2, wRaise, wRaiseF, wRet, wSeq, wSet, wSetI, wSkip, wTAnd, wTNot, wTOr, wTru, wTry, wTryF, wTup, wV, wYes, wSplit, wJoin, wRstrip, wFmt, wJNil, wJCons, wJs, gStr, gIntS, wIS, gSignNotIn, wSl, wSlt, wPn, wPs, gMulT, wGL, wTryAs, wXf, wXis, wCat, wCatV, wIxV, wDGet, wDIn, wDInT, wDGet2, wDPut, wDisp1, wOwnD, wMD, wForD, wLcD, wFz, wMv, wMinD, gListD, fzS, wDK, wDT, wFldO, wFldS, wMeth, wProp, wLenO, wCallO, wMake, wNewOb, wNewObL, wMethC, gLenD, wDGetV, wPopS, wUpd, wLV, wLI, wForIt, wSortSet, wCallIx, gSortedT, wTabIx, wTree, wForChg, messSlot, wSortLam, wAsgO, startS, List.length_cons, List.length_nil, List.map_cons, List.map_nil, List.getElem?_cons_zero, List.getElem?_cons_succ, List.set_cons_zero, List.set_cons_succ, List.cons_append, List.nil_append, List.append_nil, List.replicate_succ, List.replicate_zero, Nat.reduceAdd, Nat.reduceSub, ↓reduceIte, Bool.false_eq_true, reduceCtorEq, true_and, and_true, true_or, or_true, false_or, or_false, Bool.not_true, Bool.not_false, Bool.true_and, Bool.false_and, Bool.and_true, decide_eq_true_eq, Bool.not_eq_eq_eq_not, exists_eq_left, exists_eq_left', Option.some.injEq, flat_eP]
            refine beh_use os.1 os.2.1 ?_
            simp only [bl?, g2, gAdd, gDiv, gEq, gGe, gGt, gI, gIn, gInt, gIs, gIsNot, gLe, gLen, gList, gLt, gMM, gMod, gMul, gMulS, gNe, gNotIn, gPow, gSorted, gSub, gIadd, gSum, gTuple, puts, sV, sVs, slotM, wAnd, wApp, wAsg, wAug, wAugI, wB, wC, wCall, wCallR, wChain, wCons, wDraw, wDrop, wEnL, wEnT, wExt, wFn, wFnO, wFor, wGCons, wGNil, wGT, wIL, wIT, wIdx, wIf, wIfS, wIsi, wIx, wLc, wLst, wMNil, wMO, wMV, wMix, wN, wNeg, wNil, wNot, wNotT, wO, wOp, wOr, wOwn, wPar, wR1, wR2, wRaise, wRaiseF, wRet, wSeq, wSet, wSetI, wSkip, wTAnd, wTNot, wTOr, wTru, wTry, wTryF, wTup, wV, wYes, wSplit, wJoin, wRstrip, wFmt, wJNil, wJCons, wJs, gStr, gIntS, wIS, gSignNotIn, wSl, wSlt, wPn, wPs, gMulT, wGL, wTryAs, wXf, wXis, wCat, wCatV, wIxV, wDGet, wDIn, wDInT, wDGet2, wDPut, wDisp1, wOwnD, wMD, wForD, wLcD, wFz, wMv, wMinD, gListD, fzS, wDK, wDT, wFldO, wFldS, wMeth, wProp, wLenO, wCallO, wMake, wNewOb, wNewObL, wMethC, gLenD, wDGetV, wPopS, wUpd, wLV, wLI, wForIt, wSortSet, wCallIx, gSortedT, wTabIx, wTree, wForChg, messSlot, wSortLam, wAsgO, startS, List.length_cons, List.length_nil, List.map_cons, List.map_nil, List.getElem?_cons_zero, List.getElem?_cons_succ, List.set_cons_zero, List.set_cons_succ, List.cons_append, List.nil_append, List.append_nil, List.replicate_succ, List.replicate_zero, Nat.reduceAdd, Nat.reduceSub, ↓reduceIte, Bool.false_eq_true, reduceCtorEq, true_and, and_true, true_or, or_true, false_or, or_false, Bool.not_true, Bool.not_false, Bool.true_and, Bool.false_and, Bool.and_true, decide_eq_true_eq, Bool.not_eq_eq_eq_not, exists_eq_left, exists_eq_left', Option.some.injEq, flat_eP, lp, eH]
            refine ⟨⟨_, rfl⟩, hN2 _ ⟨beh g' s, p' ++ [s], q', _, _, _, rfl, by rw [List.map_append]; rfl, n3, n4, rfl, runs_app w1 (runs_one os cs), w3, by rw [List.length_append]; rw [List.length_cons] at wl; simp; omega⟩⟩
        · rintro S ⟨g', p', q', s3, s4, s5, er, rfl, n3, n4, n5, w1, w2, wl⟩
          cases q' with
          | cons s q' => cases er
          | nil =>
            have e : gE = g' := w2
            subst e
            have R2 := R.runs w1
            have nn2 := R2.nn
            obtain ⟨-, -, -, em3⟩ := three_of (h := gE) ⟨by rw [runs_len w1]; exact t.la, by rw [runs_len w1]; exact t.lb, by rw [runs_len w1]; exact t.lc, t.ab, t.ac, t.bc⟩ pm
            have hh2 : 2 * mn3 gE x y z ≤ gt g a := by
              rw [← em3]
              unfold mn3
              omega
            have mp : 0 ≤ mn3 gE x y z := by
              have := nn2 x
              have := nn2 y
              have := nn2 z
              unfold mn3
              omega
            refine hN gE _ ?_ ⟨p', k + 1, _, _, _, rfl, n3, n4, n5, w1, fun i h1 h2 h3 => ?_, ?_, fun F hF2 => ⟨k1 F hF2, ?_⟩⟩
            · rw [← em2, m1]
              omega
            · obtain ⟨i1, i2, i3⟩ := o1 i h1 h2 h3
              rw [ot2 i i1 i2 i3]
              exact ho i h1 h2 h3
            · have e1 : mn3 gE x y z * ((2 ^ (k + 1) : Nat) : Int) = (2 * mn3 gE x y z) * ((2 ^ k : Nat) : Int) := by
                rw [Nat.pow_succ, Int.natCast_mul, Int.mul_comm ((2 ^ k : Nat) : Int), ← Int.mul_assoc, Int.mul_comm (mn3 gE x y z)]
                rfl
              rw [e1]
              exact Int.le_trans (Int.mul_le_mul_of_nonneg_right hh2 (Int.natCast_nonneg _)) hm
            · have a1 := (hF F hF2).2
              have a2 := hq F (by rw [sg]; exact hF2)
              rw [Nat.add_mul, Nat.one_mul]
              rw [List.length_nil] at wl
              omega
      · simp only [c0, decide_false, startS, List.length_cons, List.length_nil, List.map_cons, List.map_nil, List.getElem?_cons_zero, List.getElem?_cons_succ, List.set_cons_zero, List.set_cons_succ, List.cons_append, List.nil_append, List.append_nil, List.replicate_succ, List.replicate_zero, Nat.reduceAdd, Nat.reduceSub, ↓reduceIte, Bool.false_eq_true, reduceCtorEq, true_and, and_true, true_or, or_true, false_or, or_false, Bool.not_true, Bool.not_false, Bool.true_and, Bool.false_and, Bool.and_true, decide_eq_true_eq, Bool.not_eq_eq_eq_not, exists_eq_left, exists_eq_left', Option.some.injEq]
        refine ⟨by decide, hA g p ⟨hr, ?_, ho, fun F hF2 => ?_⟩⟩
        · unfold mn3 at c0
          omega
        · obtain ⟨a1, a2⟩ := hF F hF2
          exact Nat.le_trans a2 (Nat.mul_le_mul_right F a1)
  · have b := (gt_le_sum R.nn).2 x
    unfold mn3
    rw [Nat.pow_zero]
    simp only [Int.natCast_one, Int.mul_one]
    omega
end Pu


namespace Pu
open PySem L2
theorem full_use {h : List Int} {A : PyData → Prop} {B : XC → Prop} (o : OkR h) (hA : ∀ ys, AscF h ys → A (.list (ys.map eN))) : sp_full_places [eH h] A B := ⟨h, rfl, o.l6, hA⟩
theorem len_eN (ys : List Nat) : ((ys.map eN).length : Int) = ys.length := by rw [List.length_map]
theorem flats_eN (ys : List Nat) : flats (ys.map eN) = true := flats_map (fun _ => rfl) ys
theorem AscF.three {h : List Int} {x y z : Nat} {r : List Nat} (a : AscF h (x :: y :: z :: r)) : Three h x y z := by
  have nd := a.nd
  simp at nd
  have hx := a.mem (i := x) (by simp)
  have hy := a.mem (i := y) (by simp)
  have hz := a.mem (i := z) (by simp)
  exact ⟨hx.1, hy.1, hz.1, nd.1.1, nd.1.2.1, nd.2.1.1⟩
theorem EmpR.full {h g : List Int} {x y z : Nat} {r : List Nat} {p : List (Nat × Nat)} (E : EmpR h x y z g p) (a : AscF h (x :: y :: z :: r)) : full g < full h := by
  have hx := a.mem (i := x) (by simp)
  have hy := a.mem (i := y) (by simp)
  have hz := a.mem (i := z) (by simp)
  have m : ∀ i, 0 < gt g i → 0 < gt h i := fun i hi => by
    by_cases c1 : i = x
    · rw [c1]; exact hx.2
    · by_cases c2 : i = y
      · rw [c2]; exact hy.2
      · by_cases c3 : i = z
        · rw [c3]; exact hz.2
        · rw [← E.ot i c1 c2 c3]; exact hi
  rcases E.em with e | e | e
  · exact full_lt (runs_len E.ru) m hx.2 hx.1 e
  · exact full_lt (runs_len E.ru) m hy.2 hy.1 e
  · exact full_lt (runs_len E.ru) m hz.2 hz.1 e
theorem cut3 (x y z : PyData) (r : List PyData) : cutL (x :: y :: z :: r) none (some 3) = [x, y, z] := by
  have e1 : HT.sIx (x :: y :: z :: r).length 0 none = 0 := rfl
  have e2 : HT.sIx (x :: y :: z :: r).length (x :: y :: z :: r).length (some 3) = 3 := by
    simp [HT.sIx]
  unfold cutL
  rw [e1, e2]
  rfl
theorem emp_use {h : List Int} {x y z : Nat} {r : List Nat} {A : PyData → Prop} {B : XC → Prop} (o : OkR h) (a : AscF h (x :: y :: z :: r)) (hA : ∀ g p, EmpR h x y z g p → A (.tuple [eH g, .list (p.map eP)])) : sp_emptied [eH h, .list [eN x, eN y, eN z]] A B :=
  ⟨h, x, y, z, rfl, o, a.three, hA⟩
structure ThreeR (h : List Int) (p : List (Nat × Nat)) (g : List Int) : Prop where
  ru : runs h p g
  em : ∃ i, i < h.length ∧ gt g i = 0
  le : ∀ F : Nat, h.sum < ((2 ^ F : Nat) : Int) → p.length ≤ F * F
def sp_empty_plan : Spc := fun ds A _ => ∃ h, ds = [eH h] ∧ OkH h ∧ 3 ≤ h.length ∧ ∀ g p, ThreeR h p g → A (eL p)

def w_empty_plan : WS :=
    (wSeq (wDrop (wCall sp_check_heaps (wCons (wV 0) wNil)))
    (wSeq (wIfS (wB (wOp gLt (wFn gLen (wCons (wV 0) wNil)) (wC (.int 3)))) (wRaise "BadHeaps") wSkip)
    (wSeq (wSet 1 (wCall sp_full_places (wCons (wV 0) wNil)))
    (wSeq (wIfS (wB (wOp gLt (wFn gLen (wCons (wV 1) wNil)) (wFn gLen (wCons (wV 0) wNil)))) (wRet (wTup wNil)) wSkip)
    (wRet (wFn gTuple (wCons (wIx (wCall sp_emptied (wCons (wV 0) (wCons (wO (wSl (wV 1) wPn (wPs (wC (.int 3))))) wNil))) (wC (.int 1))) wNil)))))))
theorem pure_empty_plan : Pure 2 1 sp_empty_plan w_empty_plan := by
  rintro ds A B - ⟨h, rfl, o, l3, hA⟩
  have R := o.okR
  simp only [w_empty_plan, bl?, g2, gAdd, gDiv, gEq, gGe, gGt, gI, gIn, gInt, gIs, gIsNot, gLe, gLen, gList, gLt, gMM, gMod, gMul, gMulS, gNe, gNotIn, gPow, gSorted, gSub, gIadd, gSum, gTuple, puts, sV, sVs, slotM, wAnd, wApp, wAsg, wAug, wAugI, wB, wC, wCall, wCallR, wChain, wCons, wDraw, wDrop, wEnL, wEnT, wExt, wFn, wFnO, wFor, wGCons, wGNil, wGT, wIL, wIT, wIdx, wIf, wIfS, wIsi, wIx, wLc, wLst, wMNil, wMO, wMV, wMix, wN, wNeg, wNil, wNot, wNotT, wO, wOp, wOr, wOwn, wPar, wR1, wR2, wRaise, wRaiseF, wRet, wSeq, wSet, wSetI, wSkip, wTAnd, wTNot, wTOr, wTru, wTry, wTryF, wTup, wV, wYes, wSplit, wJoin, wRstrip, wFmt, wJNil, wJCons, wJs, gStr, gIntS, wIS, gSignNotIn, wSl, wSlt, wPn, wPs, gMulT, wGL, wTryAs, wXf, wXis, wCat, wCatV, wIxV, wDGet, wDIn, wDInT, wDGet2, wDPut, wDisp1, wOwnD, wMD, wForD, wLcD, wFz, wMv, wMinD, gListD, fzS, wDK, wDT, wFldO, wFldS, wMeth, wProp, wLenO, wCallO, wMake, wNewOb, wNewObL, wMethC, gLenD, wDGetV, wPopS, wUpd, wLV, wLI, wForIt, wSortSet, wCallIx, gSortedT, wTabIx, wTree, wForChg, messSlot, wSortLam, wAsgO, startS, List.length_cons, List.length_nil, List.map_cons, List.map_nil, List.getElem?_cons_zero, List.getElem?_cons_succ, List.set_cons_zero, List.set_cons_succ, List.cons_append, List.nil_append, List.append_nil, List.replicate_succ, List.replicate_zero, Nat.reduceAdd, Nat.reduceSub, ↓reduceIte, Bool.false_eq_true, reduceCtorEq, true_and, and_true, true_or, or_true, false_or, or_false, Bool.not_true, Bool.not_false, Bool.true_and, Bool.false_and, Bool.and_true, decide_eq_true_eq, Bool.not_eq_eq_eq_not, exists_eq_left, exists_eq_left', Option.some.injEq]
  refine check_ok o ?_
  have c1 : ¬ (h.length : Int) < 3 := by omega
  simp only [startS, List.length_cons, List.length_nil, List.map_cons, List.map_nil, List.getElem?_cons_zero, List.getElem?_cons_succ, List.set_cons_zero, List.set_cons_succ, List.cons_append, List.nil_append, List.append_nil, List.replicate_succ, List.replicate_zero, Nat.reduceAdd, Nat.reduceSub, ↓reduceIte, Bool.false_eq_true, reduceCtorEq, true_and, and_true, true_or, or_true, false_or, or_false, Bool.not_true, Bool.not_false, Bool.true_and, Bool.false_and, Bool.and_true, decide_eq_true_eq, Bool.not_eq_eq_eq_not, exists_eq_left, exists_eq_left', Option.some.injEq, eH, len_eH, c1, decide_false]
  refine full_use R fun ys a => ?_
  have la := a.len
  have lf := full_le h
  simp only [startS, List.length_cons, List.length_nil, List.map_cons, List.map_nil, List.getElem?_cons_zero, List.getElem?_cons_succ, List.set_cons_zero, List.set_cons_succ, List.cons_append, List.nil_append, List.append_nil, List.replicate_succ, List.replicate_zero, Nat.reduceAdd, Nat.reduceSub, ↓reduceIte, Bool.false_eq_true, reduceCtorEq, true_and, and_true, true_or, or_true, false_or, or_false, Bool.not_true, Bool.not_false, Bool.true_and, Bool.false_and, Bool.and_true, decide_eq_true_eq, Bool.not_eq_eq_eq_not, exists_eq_left, exists_eq_left', Option.some.injEq, len_eN]
  by_cases c2 : ys.length < h.length
  · have c3 : (ys.length : Int) < h.length := by omega
    simp only [c3, decide_true, startS, List.length_cons, List.length_nil, List.map_cons, List.map_nil, List.getElem?_cons_zero, List.getElem?_cons_succ, List.set_cons_zero, List.set_cons_succ, List.cons_append, List.nil_append, List.append_nil, List.replicate_succ, List.replicate_zero, Nat.reduceAdd, Nat.reduceSub, ↓reduceIte, Bool.false_eq_true, reduceCtorEq, true_and, and_true, true_or, or_true, false_or, or_false, Bool.not_true, Bool.not_false, Bool.true_and, Bool.false_and, Bool.and_true, decide_eq_true_eq, Bool.not_eq_eq_eq_not, exists_eq_left, exists_eq_left', Option.some.injEq]
    refine ⟨by decide, hA h [] ⟨rfl, ?_, fun F _ => Nat.zero_le _⟩⟩
    have : ∃ i, i < h.length ∧ i ∉ ys := by
      refine Classical.byContradiction fun hn => ?_
      have sub : ∀ i, i ∈ List.range h.length → i ∈ ys := fun i hi => Classical.byContradiction fun z => hn ⟨i, List.mem_range.mp hi, z⟩
      have := (List.nodup_range (n := h.length)).length_le_of_subset sub
      rw [List.length_range] at this
      omega
    obtain ⟨i, hi, hni⟩ := this
    exact ⟨i, hi, a.out R.nn hi hni⟩
  · have c3 : ¬ (ys.length : Int) < h.length := by omega
    simp only [c3, decide_false, startS, List.length_cons, List.length_nil, List.map_cons, List.map_nil, List.getElem?_cons_zero, List.getElem?_cons_succ, List.set_cons_zero, List.set_cons_succ, List.cons_append, List.nil_append, List.append_nil, List.replicate_succ, List.replicate_zero, Nat.reduceAdd, Nat.reduceSub, ↓reduceIte, Bool.false_eq_true, reduceCtorEq, true_and, and_true, true_or, or_true, false_or, or_false, Bool.not_true, Bool.not_false, Bool.true_and, Bool.false_and, Bool.and_true, decide_eq_true_eq, Bool.not_eq_eq_eq_not, exists_eq_left, exists_eq_left', Option.some.injEq]
    match ys, a, c2 with
    | [], _, c2 => exact absurd (show 0 < h.length by omega) c2
    | [_], _, c2 => exact absurd (show 1 < h.length by omega) c2
    | [_, _], _, c2 => exact absurd (show 2 < h.length by omega) c2
    | x :: y :: z :: r, a, c2 =>
      simp only [List.map_cons, cut3]
      refine emp_use R a fun g p E => ?_
      have hx := a.mem (i := x) (by simp)
      have hy := a.mem (i := y) (by simp)
      have hz := a.mem (i := z) (by simp)
      simp only [at_1, startS, List.length_cons, List.length_nil, List.map_cons, List.map_nil, List.getElem?_cons_zero, List.getElem?_cons_succ, List.set_cons_zero, List.set_cons_succ, List.cons_append, List.nil_append, List.append_nil, List.replicate_succ, List.replicate_zero, Nat.reduceAdd, Nat.reduceSub, ↓reduceIte, Bool.false_eq_true, reduceCtorEq, true_and, and_true, true_or, or_true, false_or, or_false, Bool.not_true, Bool.not_false, Bool.true_and, Bool.false_and, Bool.and_true, decide_eq_true_eq, Bool.not_eq_eq_eq_not, exists_eq_left, exists_eq_left', Option.some.injEq, flats_eP, flats, flat]
      exact hA g p ⟨E.ru, by
        rcases E.em with e | e | e
        · exact ⟨x, hx.1, e⟩
        · exact ⟨y, hy.1, e⟩
        · exact ⟨z, hz.1, e⟩, E.le⟩
structure PairR (h : List Int) (p : List (Nat × Nat)) (g : List Int) : Prop where
  ru : runs h p g
  fu : full g ≤ 2
  le : ∀ F : Nat, h.sum < ((2 ^ F : Nat) : Int) → p.length + full g * (F * F) ≤ full h * (F * F)
def sp_pair_steps : Spc := fun ds A _ => ∃ h, ds = [eH h] ∧ OkR h ∧ ∀ g p, PairR h p g → A (.tuple [eH g, .list (p.map eP)])

def w_pair_steps : WS :=
    (wSeq (wOwn 1 (wLst wNil))
    (wSeq (wSet 2 (wCall sp_full_places (wCons (wV 0) wNil)))
    (wSeq (wWh (wB (wOp gGt (wFn gLen (wCons (wV 2) wNil)) (wC (.int 2)))) (wSeq (wAsg (wCall sp_emptied (wCons (wV 0) (wCons (wO (wSl (wV 2) wPn (wPs (wC (.int 3))))) wNil))) (wGT 2 (wGCons (wN 0) (wGCons (wN 3) wGNil))))
    (wSeq (wExt 1 (wV 3))
    (wSet 2 (wCall sp_full_places (wCons (wV 0) wNil))))))
    (wRet (wTup (wCons (wV 0) (wCons (wV 1) wNil)))))))
theorem pure_pair_steps : Pure 4 1 sp_pair_steps w_pair_steps := by
  rintro ds A B - ⟨h, rfl, R, hA⟩
  have h103 := s103 R
  simp only [w_pair_steps, bl?, g2, gAdd, gDiv, gEq, gGe, gGt, gI, gIn, gInt, gIs, gIsNot, gLe, gLen, gList, gLt, gMM, gMod, gMul, gMulS, gNe, gNotIn, gPow, gSorted, gSub, gIadd, gSum, gTuple, puts, sV, sVs, slotM, wAnd, wApp, wAsg, wAug, wAugI, wB, wC, wCall, wCallR, wChain, wCons, wDraw, wDrop, wEnL, wEnT, wExt, wFn, wFnO, wFor, wGCons, wGNil, wGT, wIL, wIT, wIdx, wIf, wIfS, wIsi, wIx, wLc, wLst, wMNil, wMO, wMV, wMix, wN, wNeg, wNil, wNot, wNotT, wO, wOp, wOr, wOwn, wPar, wR1, wR2, wRaise, wRaiseF, wRet, wSeq, wSet, wSetI, wSkip, wTAnd, wTNot, wTOr, wTru, wTry, wTryF, wTup, wV, wYes, wSplit, wJoin, wRstrip, wFmt, wJNil, wJCons, wJs, gStr, gIntS, wIS, gSignNotIn, wSl, wSlt, wPn, wPs, gMulT, wGL, wTryAs, wXf, wXis, wCat, wCatV, wIxV, wDGet, wDIn, wDInT, wDGet2, wDPut, wDisp1, wOwnD, wMD, wForD, wLcD, wFz, wMv, wMinD, gListD, fzS, wDK, wDT, wFldO, wFldS, wMeth, wProp, wLenO, wCallO, wMake, wNewOb, wNewObL, wMethC, gLenD, wDGetV, wPopS, wUpd, wLV, wLI, wForIt, wSortSet, wCallIx, gSortedT, wTabIx, wTree, wForChg, messSlot, wSortLam, wAsgO, startS, List.length_cons, List.length_nil, List.map_cons, List.map_nil, List.getElem?_cons_zero, List.getElem?_cons_succ, List.set_cons_zero, List.set_cons_succ, List.cons_append, List.nil_append, List.append_nil, List.replicate_succ, List.replicate_zero, Nat.reduceAdd, Nat.reduceSub, ↓reduceIte, Bool.false_eq_true, reduceCtorEq, true_and, and_true, true_or, or_true, false_or, or_false, Bool.not_true, Bool.not_false, Bool.true_and, Bool.false_and, Bool.and_true, decide_eq_true_eq, Bool.not_eq_eq_eq_not, exists_eq_left, exists_eq_left', Option.some.injEq]
  refine ⟨by decide, ?_⟩
  refine full_use R fun ys a => ?_
  refine ⟨full h + 1, wh_ok (fun (g : List Int) S => ∃ p ys s3, S = [.im (eH g), .ol (p.map eP), .im (.list (ys.map eN)), s3] ∧ AscF g ys ∧ runs h p g ∧ ∀ F : Nat, h.sum < ((2 ^ F : Nat) : Int) → p.length + full g * (F * F) ≤ full h * (F * F)) full ?_ _ h _ (Nat.lt_succ_self _)
    ⟨[], ys, _, rfl, a, rfl, fun F _ => by simp⟩⟩
  rintro g S ⟨p, ys, s3, rfl, ag, hr, hF⟩ Nx hN
  have Rg := R.runs hr
  have la := ag.len
  have f6 : full h ≤ 6 := Nat.le_trans (full_le h) R.l6
  have p103 := hF 103 h103
  simp only [bl?, g2, gAdd, gDiv, gEq, gGe, gGt, gI, gIn, gInt, gIs, gIsNot, gLe, gLen, gList, gLt, gMM, gMod, gMul, gMulS, gNe, gNotIn, gPow, gSorted, gSub, gIadd, gSum, gTuple, puts, sV, sVs, slotM, wAnd, wApp, wAsg, wAug, wAugI, wB, wC, wCall, wCallR, wChain, wCons, wDraw, wDrop, wEnL, wEnT, wExt, wFn, wFnO, wFor, wGCons, wGNil, wGT, wIL, wIT, wIdx, wIf, wIfS, wIsi, wIx, wLc, wLst, wMNil, wMO, wMV, wMix, wN, wNeg, wNil, wNot, wNotT, wO, wOp, wOr, wOwn, wPar, wR1, wR2, wRaise, wRaiseF, wRet, wSeq, wSet, wSetI, wSkip, wTAnd, wTNot, wTOr, wTru, wTry, wTryF, wTup, wV, wYes, wSplit, wJoin, wRstrip, wFmt, wJNil, wJCons, wJs, gStr, gIntS, wIS, gSignNotIn, wSl, wSlt, wPn, wPs, gMulT, wGL, wTryAs, wXf, wXis, wCat, wCatV, wIxV, wDGet, wDIn, wDInT, wDGet2, wDPut, wDisp1, wOwnD, wMD, wForD, wLcD, wFz, wMv, wMinD, gListD, fzS, wDK, wDT, wFldO, wFldS, wMeth, wProp, wLenO, wCallO, wMake, wNewOb, wNewObL, wMethC, gLenD, wDGetV, wPopS, wUpd, wLV, wLI, wForIt, wSortSet, wCallIx, gSortedT, wTabIx, wTree, wForChg, messSlot, wSortLam, wAsgO, startS, List.length_cons, List.length_nil, List.map_cons, List.map_nil, List.getElem?_cons_zero, List.getElem?_cons_succ, List.set_cons_zero, List.set_cons_succ, List.cons_append, List.nil_append, List.append_nil, List.replicate_succ, List.replicate_zero, Nat.reduceAdd, Nat.reduceSub, ↓reduceIte, Bool.false_eq_true, reduceCtorEq, true_and, and_true, true_or, or_true, false_or, or_false, Bool.not_true, Bool.not_false, Bool.true_and, Bool.false_and, Bool.and_true, decide_eq_true_eq, Bool.not_eq_eq_eq_not, exists_eq_left, exists_eq_left', Option.some.injEq, len_eN]
  by_cases c : 2 < ys.length
  · have c1 : (2 : Int) < ys.length := by omega
    simp only [c1, decide_true, startS, List.length_cons, List.length_nil, List.map_cons, List.map_nil, List.getElem?_cons_zero, List.getElem?_cons_succ, List.set_cons_zero, List.set_cons_succ, List.cons_append, List.nil_append, List.append_nil, List.replicate_succ, List.replicate_zero, Nat.reduceAdd, Nat.reduceSub, ↓reduceIte, Bool.false_eq_true, reduceCtorEq, true_and, and_true, true_or, or_true, false_or, or_false, Bool.not_true, Bool.not_false, Bool.true_and, Bool.false_and, Bool.and_true, decide_eq_true_eq, Bool.not_eq_eq_eq_not, exists_eq_left, exists_eq_left', Option.some.injEq]
    match ys, ag, c with
    | x :: y :: z :: r, ag, _ =>
      simp only [List.map_cons, cut3]
      refine emp_use Rg ag fun gE q E => ?_
      have ff := E.full ag
      have q103 := E.le 103 (by rw [runs_sum hr]; exact h103)
      have key : ∀ F : Nat, h.sum < ((2 ^ F : Nat) : Int) → (p ++ q).length + full gE * (F * F) ≤ full h * (F * F) := fun F hF2 => by
        have a1 := hF F hF2
        have a2 := E.le F (by rw [runs_sum hr]; exact hF2)
        have a3 : (full gE + 1) * (F * F) ≤ full g * (F * F) := Nat.mul_le_mul_right _ ff
        rw [Nat.add_mul, Nat.one_mul] at a3
        rw [List.length_append]
        omega
      have hl : (p.map eP).length + (q.map eP).length ≤ sizeLine := by
        have := key 103 h103
        have z : full h * (103 * 103) ≤ 6 * (103 * 103) := Nat.mul_le_mul_right _ f6
        rw [List.length_append] at this
        rw [List.length_map, List.length_map, sizeLine_eq]
        omega
      simp only [startS, List.length_cons, List.length_nil, List.map_cons, List.map_nil, List.getElem?_cons_zero, List.getElem?_cons_succ, List.set_cons_zero, List.set_cons_succ, List.cons_append, List.nil_append, List.append_nil, List.replicate_succ, List.replicate_zero, Nat.reduceAdd, Nat.reduceSub, ↓reduceIte, Bool.false_eq_true, reduceCtorEq, true_and, and_true, true_or, or_true, false_or, or_false, Bool.not_true, Bool.not_false, Bool.true_and, Bool.false_and, Bool.and_true, decide_eq_true_eq, Bool.not_eq_eq_eq_not, exists_eq_left, exists_eq_left', Option.some.injEq, flat_eH, flats_eP, flats, flat, hl]
      refine ⟨⟨_, rfl⟩, ?_⟩
      have RE := Rg.runs E.ru
      refine full_use RE fun ys2 a2 => ?_
      exact hN gE _ ff ⟨p ++ q, ys2, _, by rw [List.map_append], a2, runs_app hr E.ru, key⟩
  · have c1 : ¬ (2 : Int) < ys.length := by omega
    simp only [c1, decide_false, startS, List.length_cons, List.length_nil, List.map_cons, List.map_nil, List.getElem?_cons_zero, List.getElem?_cons_succ, List.set_cons_zero, List.set_cons_succ, List.cons_append, List.nil_append, List.append_nil, List.replicate_succ, List.replicate_zero, Nat.reduceAdd, Nat.reduceSub, ↓reduceIte, Bool.false_eq_true, reduceCtorEq, true_and, and_true, true_or, or_true, false_or, or_false, Bool.not_true, Bool.not_false, Bool.true_and, Bool.false_and, Bool.and_true, decide_eq_true_eq, Bool.not_eq_eq_eq_not, exists_eq_left, exists_eq_left', Option.some.injEq]
    exact ⟨by decide, hA g p ⟨hr, by omega, hF⟩⟩
def sp_pair_plan : Spc := fun ds A _ => ∃ h, ds = [eH h] ∧ OkH h ∧ ∀ g p, PairR h p g → A (eL p)

def w_pair_plan : WS :=
    (wSeq (wDrop (wCall sp_check_heaps (wCons (wV 0) wNil)))
    (wRet (wFn gTuple (wCons (wIx (wCall sp_pair_steps (wCons (wV 0) wNil)) (wC (.int 1))) wNil))))
theorem pure_pair_plan : Pure 1 1 sp_pair_plan w_pair_plan := by
  rintro ds A B - ⟨h, rfl, o, hA⟩
  simp only [w_pair_plan, bl?, g2, gAdd, gDiv, gEq, gGe, gGt, gI, gIn, gInt, gIs, gIsNot, gLe, gLen, gList, gLt, gMM, gMod, gMul, gMulS, gNe, gNotIn, gPow, gSorted, gSub, gIadd, gSum, gTuple, puts, sV, sVs, slotM, wAnd, wApp, wAsg, wAug, wAugI, wB, wC, wCall, wCallR, wChain, wCons, wDraw, wDrop, wEnL, wEnT, wExt, wFn, wFnO, wFor, wGCons, wGNil, wGT, wIL, wIT, wIdx, wIf, wIfS, wIsi, wIx, wLc, wLst, wMNil, wMO, wMV, wMix, wN, wNeg, wNil, wNot, wNotT, wO, wOp, wOr, wOwn, wPar, wR1, wR2, wRaise, wRaiseF, wRet, wSeq, wSet, wSetI, wSkip, wTAnd, wTNot, wTOr, wTru, wTry, wTryF, wTup, wV, wYes, wSplit, wJoin, wRstrip, wFmt, wJNil, wJCons, wJs, gStr, gIntS, wIS, gSignNotIn, wSl, wSlt, wPn, wPs, gMulT, wGL, wTryAs, wXf, wXis, wCat, wCatV, wIxV, wDGet, wDIn, wDInT, wDGet2, wDPut, wDisp1, wOwnD, wMD, wForD, wLcD, wFz, wMv, wMinD, gListD, fzS, wDK, wDT, wFldO, wFldS, wMeth, wProp, wLenO, wCallO, wMake, wNewOb, wNewObL, wMethC, gLenD, wDGetV, wPopS, wUpd, wLV, wLI, wForIt, wSortSet, wCallIx, gSortedT, wTabIx, wTree, wForChg, messSlot, wSortLam, wAsgO, startS, List.length_cons, List.length_nil, List.map_cons, List.map_nil, List.getElem?_cons_zero, List.getElem?_cons_succ, List.set_cons_zero, List.set_cons_succ, List.cons_append, List.nil_append, List.append_nil, List.replicate_succ, List.replicate_zero, Nat.reduceAdd, Nat.reduceSub, ↓reduceIte, Bool.false_eq_true, reduceCtorEq, true_and, and_true, true_or, or_true, false_or, or_false, Bool.not_true, Bool.not_false, Bool.true_and, Bool.false_and, Bool.and_true, decide_eq_true_eq, Bool.not_eq_eq_eq_not, exists_eq_left, exists_eq_left', Option.some.injEq]
  refine check_ok o ?_
  refine ⟨h, rfl, o.okR, fun g p r => ?_⟩
  simp only [at_1, startS, List.length_cons, List.length_nil, List.map_cons, List.map_nil, List.getElem?_cons_zero, List.getElem?_cons_succ, List.set_cons_zero, List.set_cons_succ, List.cons_append, List.nil_append, List.append_nil, List.replicate_succ, List.replicate_zero, Nat.reduceAdd, Nat.reduceSub, ↓reduceIte, Bool.false_eq_true, reduceCtorEq, true_and, and_true, true_or, or_true, false_or, or_false, Bool.not_true, Bool.not_false, Bool.true_and, Bool.false_and, Bool.and_true, decide_eq_true_eq, Bool.not_eq_eq_eq_not, exists_eq_left, exists_eq_left', Option.some.injEq, flats_eP, flats, flat]
  exact hA g p r
/-! one heap alone -/
/-- c times every heap is a multiple of w -/
def Mul (w c : Int) (h : List Int) : Prop := ∀ k, w ∣ c * gt h k
theorem runs_mul {w c : Int} : ∀ {p : List (Nat × Nat)} {h g : List Int}, runs h p g → Mul w c h → Mul w c g
  | [], h, g, e, m => by have e : g = h := e; rw [e]; exact m
  | s :: p, h, g, ⟨a, _, r⟩, m => runs_mul r fun k => by
    rw [gt_beh a]
    split
    · rw [Int.mul_add]; exact Int.dvd_add (m _) (m _)
    · split
      · rw [Int.mul_sub]; exact Int.dvd_sub (m _) (m _)
      · exact m k
theorem mul_odd {h : List Int} {f : Nat} (o : OkH h) (O : OddH h 1 f) : Mul h.sum ((2 ^ f : Nat) : Int) h ∧ ((2 ^ f : Nat) : Int) ≤ h.sum := by
  obtain ⟨g0, g1, g2⟩ := gcd_pos o
  have d := gcd_sum_dvd fun x hx => (o.rg x hx).1
  have R := o.okR
  have es : h.sum = ((h.sum.toNat : Nat) : Int) := (cast_toNat (by have := R.s1; omega)).symm
  have e := O.eq
  rw [Nat.one_mul] at e
  have eq : h.sum.toNat = gcdH h * 2 ^ f := by rw [← e, Nat.mul_div_cancel' d]
  refine ⟨fun k => ?_, ?_⟩
  · rcases Nat.lt_or_ge k h.length with c | c
    · obtain ⟨m, hm⟩ := gcd_dvd (gt_mem c)
      have ek : gt h k = ((gcdH h * m : Nat) : Int) := by rw [← hm]; exact (cast_toNat (R.nn k)).symm
      rw [ek, es, eq, ← Int.natCast_mul]
      refine Int.natCast_dvd_natCast.mpr ⟨m, ?_⟩
      rw [← Nat.mul_assoc, Nat.mul_comm (2 ^ f)]
    · have : gt h k = 0 := by
        unfold gt
        rw [List.getD_eq_getElem?_getD, List.getElem?_eq_none c]
        rfl
      rw [this, Int.mul_zero]
      exact Int.dvd_zero _
  · rw [es, eq]
    have : 2 ^ f ≤ gcdH h * 2 ^ f := Nat.le_mul_of_pos_left _ g0
    exact Int.ofNat_le.mpr this
theorem walk_one {g : List Int} {i j e : Nat} (R : OkR g) (a : AscF g [i, j]) (m : Mul g.sum ((2 ^ e : Nat) : Int) g) :
    0 < e ∧ okS g.length (j, i) ∧ can g (j, i) = true ∧ full (beh g (j, i)) ≤ 2 ∧ Mul g.sum ((2 ^ (e - 1) : Nat) : Int) (beh g (j, i)) := by
  have hi := a.mem (i := i) (by simp)
  have hj := a.mem (i := j) (by simp)
  have nd := a.nd
  have so := a.so
  simp at nd so
  have z : ∀ k, k ≠ i → k ≠ j → gt g k = 0 := fun k k1 k2 => by
    rcases Nat.lt_or_ge k g.length with c | c
    · exact a.out R.nn c (by simp [k1, k2])
    · unfold gt
      rw [List.getD_eq_getElem?_getD, List.getElem?_eq_none c]
      rfl
  have s2 := sum_two hi.1 hj.1 nd z
  have ok : okS g.length (j, i) := ⟨hj.1, hi.1, fun q => nd q.symm⟩
  have cn : can g (j, i) = true := can_iff.mpr ⟨hi.2, so⟩
  have e0 : 0 < e := by
    rcases Nat.eq_zero_or_pos e with c | c
    · subst c
      have q := m i
      rw [Nat.pow_zero, Int.natCast_one, Int.one_mul] at q
      have := Int.le_of_dvd hi.2 q
      omega
    · exact c
  refine ⟨e0, ok, cn, ?_, fun k => ?_⟩
  · have := a.len
    have fm : full (beh g (j, i)) ≤ full g := full_mono (beh_len g _) fun x hx => by
      rw [gt_beh ok] at hx
      by_cases c1 : x = i
      · rw [c1]; exact hi.2
      · rw [if_neg c1] at hx
        by_cases c2 : x = j
        · rw [c2]; exact hj.2
        · rw [if_neg c2] at hx
          exact hx
    simp at this
    omega
  · obtain ⟨d, rfl⟩ : ∃ d, e = d + 1 := ⟨e - 1, by omega⟩
    rw [Nat.add_sub_cancel]
    have q := m i
    have e2 : ((2 ^ (d + 1) : Nat) : Int) * gt g i = ((2 ^ d : Nat) : Int) * (gt g i + gt g i) := by
      rw [Nat.pow_succ, Int.natCast_mul, Int.mul_assoc]
      congr 1
      show 2 * gt g i = _
      omega
    rw [e2] at q
    rw [gt_beh ok]
    split
    · exact q
    · split
      · have e3 : gt g j - gt g i = g.sum - (gt g i + gt g i) := by omega
        show g.sum ∣ ((2 ^ d : Nat) : Int) * (gt g j - gt g i)
        rw [e3, Int.mul_sub]
        exact Int.dvd_sub (Int.dvd_mul_left _ _) q
      · rename_i c1 c2
        rw [z k c1 c2, Int.mul_zero]
        exact Int.dvd_zero _
structure OneR (h : List Int) (p : List (Nat × Nat)) (g : List Int) : Prop where
  ru : runs h p g
  fu : full g = 1
  le : ∀ F : Nat, h.sum < ((2 ^ F : Nat) : Int) → p.length ≤ F * F * h.length
def sp_one_plan : Spc := fun ds A _ => ∃ h, ds = [eH h] ∧ OkH h ∧ (∀ l f, OddH h l f → 1 < l → A .none) ∧ (∀ f, OddH h 1 f → ∀ g p, OneR h p g → A (eL p))

def w_one_plan : WS :=
    (wSeq (wDrop (wCall sp_check_heaps (wCons (wV 0) wNil)))
    (wSeq (wIfS (wB (wOp gGt (wCall sp_odd_by (wCons (wV 0) wNil)) (wC (.int 1)))) (wRet (wC .none)) wSkip)
    (wSeq (wAsgO 0 1 sp_pair_steps (wCons (wV 0) wNil))
    (wSeq (wSet 2 (wCall sp_full_places (wCons (wV 0) wNil)))
    (wSeq (wWh (wB (wOp gGt (wFn gLen (wCons (wV 2) wNil)) (wC (.int 1)))) (wSeq (wSet 3 (wTup (wCons (wIx (wV 2) (wC (.int 1))) (wCons (wIx (wV 2) (wC (.int 0))) wNil))))
    (wSeq (wSet 0 (wCall sp_behind (wCons (wV 0) (wCons (wV 3) wNil))))
    (wSeq (wApp 1 (wV 3))
    (wSet 2 (wCall sp_full_places (wCons (wV 0) wNil)))))))
    (wRet (wFn gTuple (wCons (wV 1) wNil))))))))
theorem pure_one_plan : Pure 4 1 sp_one_plan w_one_plan := by
  rintro ds A B - ⟨h, rfl, o, hN, hA⟩
  have R := o.okR
  have h103 := s103 R
  obtain ⟨l, f, O⟩ := OddH.ex o
  have l1 := O.odd
  simp only [w_one_plan, bl?, g2, gAdd, gDiv, gEq, gGe, gGt, gI, gIn, gInt, gIs, gIsNot, gLe, gLen, gList, gLt, gMM, gMod, gMul, gMulS, gNe, gNotIn, gPow, gSorted, gSub, gIadd, gSum, gTuple, puts, sV, sVs, slotM, wAnd, wApp, wAsg, wAug, wAugI, wB, wC, wCall, wCallR, wChain, wCons, wDraw, wDrop, wEnL, wEnT, wExt, wFn, wFnO, wFor, wGCons, wGNil, wGT, wIL, wIT, wIdx, wIf, wIfS, wIsi, wIx, wLc, wLst, wMNil, wMO, wMV, wMix, wN, wNeg, wNil, wNot, wNotT, wO, wOp, wOr, wOwn, wPar, wR1, wR2, wRaise, wRaiseF, wRet, wSeq, wSet, wSetI, wSkip, wTAnd, wTNot, wTOr, wTru, wTry, wTryF, wTup, wV, wYes, wSplit, wJoin, wRstrip, wFmt, wJNil, wJCons, wJs, gStr, gIntS, wIS, gSignNotIn, wSl, wSlt, wPn, wPs, gMulT, wGL, wTryAs, wXf, wXis, wCat, wCatV, wIxV, wDGet, wDIn, wDInT, wDGet2, wDPut, wDisp1, wOwnD, wMD, wForD, wLcD, wFz, wMv, wMinD, gListD, fzS, wDK, wDT, wFldO, wFldS, wMeth, wProp, wLenO, wCallO, wMake, wNewOb, wNewObL, wMethC, gLenD, wDGetV, wPopS, wUpd, wLV, wLI, wForIt, wSortSet, wCallIx, gSortedT, wTabIx, wTree, wForChg, messSlot, wSortLam, wAsgO, startS, List.length_cons, List.length_nil, List.map_cons, List.map_nil, List.getElem?_cons_zero, List.getElem?_cons_succ, List.set_cons_zero, List.set_cons_succ, List.cons_append, List.nil_append, List.append_nil, List.replicate_succ, List.replicate_zero, Nat.reduceAdd, Nat.reduceSub, ↓reduceIte, Bool.false_eq_true, reduceCtorEq, true_and, and_true, true_or, or_true, false_or, or_false, Bool.not_true, Bool.not_false, Bool.true_and, Bool.false_and, Bool.and_true, decide_eq_true_eq, Bool.not_eq_eq_eq_not, exists_eq_left, exists_eq_left', Option.some.injEq]
  refine check_ok o ?_
  refine ⟨h, rfl, o, fun l' f' O' => ?_⟩
  have el := O'.uniq O
  subst el
  by_cases c : 1 < l'
  · have c1 : (1 : Int) < l' := by omega
    simp only [c1, decide_true, startS, List.length_cons, List.length_nil, List.map_cons, List.map_nil, List.getElem?_cons_zero, List.getElem?_cons_succ, List.set_cons_zero, List.set_cons_succ, List.cons_append, List.nil_append, List.append_nil, List.replicate_succ, List.replicate_zero, Nat.reduceAdd, Nat.reduceSub, ↓reduceIte, Bool.false_eq_true, reduceCtorEq, true_and, and_true, true_or, or_true, false_or, or_false, Bool.not_true, Bool.not_false, Bool.true_and, Bool.false_and, Bool.and_true, decide_eq_true_eq, Bool.not_eq_eq_eq_not, exists_eq_left, exists_eq_left', Option.some.injEq]
    exact hN l' f O c
  · have c1 : ¬ (1 : Int) < l' := by omega
    have el : l' = 1 := by omega
    subst el
    have hA := hA f O
    obtain ⟨mu, fs⟩ := mul_odd o O
    simp only [c1, decide_false, startS, List.length_cons, List.length_nil, List.map_cons, List.map_nil, List.getElem?_cons_zero, List.getElem?_cons_succ, List.set_cons_zero, List.set_cons_succ, List.cons_append, List.nil_append, List.append_nil, List.replicate_succ, List.replicate_zero, Nat.reduceAdd, Nat.reduceSub, ↓reduceIte, Bool.false_eq_true, reduceCtorEq, true_and, and_true, true_or, or_true, false_or, or_false, Bool.not_true, Bool.not_false, Bool.true_and, Bool.false_and, Bool.and_true, decide_eq_true_eq, Bool.not_eq_eq_eq_not, exists_eq_left, exists_eq_left', Option.some.injEq, flat_eH, flats]
    refine ⟨h, rfl, R, fun g p r => ⟨eH g, p.map eP, rfl, flat_eH g, flats_eP p, ?_⟩⟩
    have Rg := R.runs r.ru
    refine full_use Rg fun ys a => ?_
    have mg := runs_mul r.ru mu
    have rle := r.le
    have rfu := r.fu
    have rru := r.ru
    have p103 := rle 103 h103
    have f103 : f < 103 := by
      rcases Nat.lt_or_ge f 103 with z | z
      · exact z
      · have := Nat.pow_le_pow_right (n := 2) (by decide) z
        omega
    have f6 : full h ≤ 6 := Nat.le_trans (full_le h) R.l6
    refine ⟨f + 1, wh_ok (fun (e : Nat) S => ∃ g' p' ys s3, S = [.im (eH g'), .ol (p'.map eP), .im (.list (ys.map eN)), s3] ∧ AscF g' ys ∧ runs h p' g' ∧ full g' ≤ 2 ∧ Mul h.sum ((2 ^ e : Nat) : Int) g' ∧ p'.length + e ≤ p.length + f) (fun e => e) ?_ _ f _ (Nat.lt_succ_self _)
      ⟨g, p, ys, _, rfl, a, rru, rfu, mg, Nat.le_refl _⟩⟩
    rintro e S ⟨g', p', ys', s3, rfl, a', r', fu', m', le'⟩ Nx hNx
    have R' := R.runs r'
    have sg := runs_sum r'
    have la := a'.len
    simp only [bl?, g2, gAdd, gDiv, gEq, gGe, gGt, gI, gIn, gInt, gIs, gIsNot, gLe, gLen, gList, gLt, gMM, gMod, gMul, gMulS, gNe, gNotIn, gPow, gSorted, gSub, gIadd, gSum, gTuple, puts, sV, sVs, slotM, wAnd, wApp, wAsg, wAug, wAugI, wB, wC, wCall, wCallR, wChain, wCons, wDraw, wDrop, wEnL, wEnT, wExt, wFn, wFnO, wFor, wGCons, wGNil, wGT, wIL, wIT, wIdx, wIf, wIfS, wIsi, wIx, wLc, wLst, wMNil, wMO, wMV, wMix, wN, wNeg, wNil, wNot, wNotT, wO, wOp, wOr, wOwn, wPar, wR1, wR2, wRaise, wRaiseF, wRet, wSeq, wSet, wSetI, wSkip, wTAnd, wTNot, wTOr, wTru, wTry, wTryF, wTup, wV, wYes, wSplit, wJoin, wRstrip, wFmt, wJNil, wJCons, wJs, gStr, gIntS, wIS, gSignNotIn, wSl, wSlt, wPn, wPs, gMulT, wGL, wTryAs, wXf, wXis, wCat, wCatV, wIxV, wDGet, wDIn, wDInT, wDGet2, wDPut, wDisp1, wOwnD, wMD, wForD, wLcD, wFz, wMv, wMinD, gListD, fzS, wDK, wDT, wFldO, wFldS, wMeth, wProp, wLenO, wCallO, wMake, wNewOb, wNewObL, wMethC, gLenD, wDGetV, wPopS, wUpd, wLV, wLI, wForIt, wSortSet, wCallIx, gSortedT, wTabIx, wTree, wForChg, messSlot, wSortLam, wAsgO, startS, List.length_cons, List.length_nil, List.map_cons, List.map_nil, List.getElem?_cons_zero, List.getElem?_cons_succ, List.set_cons_zero, List.set_cons_succ, List.cons_append, List.nil_append, List.append_nil, List.replicate_succ, List.replicate_zero, Nat.reduceAdd, Nat.reduceSub, ↓reduceIte, Bool.false_eq_true, reduceCtorEq, true_and, and_true, true_or, or_true, false_or, or_false, Bool.not_true, Bool.not_false, Bool.true_and, Bool.false_and, Bool.and_true, decide_eq_true_eq, Bool.not_eq_eq_eq_not, exists_eq_left, exists_eq_left', Option.some.injEq, len_eN]
    by_cases c2 : 1 < ys'.length
    · have c3 : (1 : Int) < ys'.length := by omega
      simp only [c3, decide_true, startS, List.length_cons, List.length_nil, List.map_cons, List.map_nil, List.getElem?_cons_zero, List.getElem?_cons_succ, List.set_cons_zero, List.set_cons_succ, List.cons_append, List.nil_append, List.append_nil, List.replicate_succ, List.replicate_zero, Nat.reduceAdd, Nat.reduceSub, ↓reduceIte, Bool.false_eq_true, reduceCtorEq, true_and, and_true, true_or, or_true, false_or, or_false, Bool.not_true, Bool.not_false, Bool.true_and, Bool.false_and, Bool.and_true, decide_eq_true_eq, Bool.not_eq_eq_eq_not, exists_eq_left, exists_eq_left', Option.some.injEq]
      match ys', a', la, c2 with
      | [i, j], a', _, _ =>
        obtain ⟨e0, ok, cn, fu2, m2⟩ := walk_one R' a' (by rw [sg]; exact m')
        rw [sg] at m2
        have hl : (List.map eP p').length < sizeLine := by
          have z : full h * (103 * 103) ≤ 6 * (103 * 103) := Nat.mul_le_mul_right _ f6
          rw [List.length_map, sizeLine_eq]
          omega
        simp only [List.map_cons, List.map_nil, at_0, at_1, startS, List.length_cons, List.length_nil, List.map_cons, List.map_nil, List.getElem?_cons_zero, List.getElem?_cons_succ, List.set_cons_zero, List.set_cons_succ, List.cons_append, List.nil_append, List.append_nil, List.replicate_succ, List.replicate_zero, Nat.reduceAdd, Nat.reduceSub, ↓reduceIte, Bool.false_eq_true, reduceCtorEq, true_and, and_true, true_or, or_true, false_or, or_false, Bool.not_true, Bool.not_false, Bool.true_and, Bool.false_and, Bool.and_true, decide_eq_true_eq, Bool.not_eq_eq_eq_not, exists_eq_left, exists_eq_left', Option.some.injEq, eN, flat_int]
        refine ⟨by decide, ?_⟩
        refine beh_use (s := (j, i)) ok.1 ok.2.1 ?_
        simp only [hl, flats, flat, startS, List.length_cons, List.length_nil, List.map_cons, List.map_nil, List.getElem?_cons_zero, List.getElem?_cons_succ, List.set_cons_zero, List.set_cons_succ, List.cons_append, List.nil_append, List.append_nil, List.replicate_succ, List.replicate_zero, Nat.reduceAdd, Nat.reduceSub, ↓reduceIte, Bool.false_eq_true, reduceCtorEq, true_and, and_true, true_or, or_true, false_or, or_false, Bool.not_true, Bool.not_false, Bool.true_and, Bool.false_and, Bool.and_true, decide_eq_true_eq, Bool.not_eq_eq_eq_not, exists_eq_left, exists_eq_left', Option.some.injEq, Bool.and_self]
        refine ⟨⟨_, rfl⟩, ?_⟩
        have r2 := runs_app r' (runs_one ok cn)
        refine full_use (R.runs r2) fun ys2 a2 => ?_
        exact hNx (e - 1) _ (by omega) ⟨_, p' ++ [(j, i)], ys2, _, by rw [List.map_append]; rfl, a2, r2, fu2, m2, by rw [List.length_append]; simp; omega⟩
      | x :: y :: z :: r, a', la, _ => simp at la; omega
    · have c3 : ¬ (1 : Int) < ys'.length := by omega
      simp only [c3, decide_false, startS, List.length_cons, List.length_nil, List.map_cons, List.map_nil, List.getElem?_cons_zero, List.getElem?_cons_succ, List.set_cons_zero, List.set_cons_succ, List.cons_append, List.nil_append, List.append_nil, List.replicate_succ, List.replicate_zero, Nat.reduceAdd, Nat.reduceSub, ↓reduceIte, Bool.false_eq_true, reduceCtorEq, true_and, and_true, true_or, or_true, false_or, or_false, Bool.not_true, Bool.not_false, Bool.true_and, Bool.false_and, Bool.and_true, decide_eq_true_eq, Bool.not_eq_eq_eq_not, exists_eq_left, exists_eq_left', Option.some.injEq]
      have fp := full_pos R'.nn (by have := R'.s1; omega)
      have fpg := full_pos Rg.nn (by have := Rg.s1; omega)
      refine hA g' p' ⟨r', by omega, fun F hF => ?_⟩
      have b1 := rle F hF
      have fF : f < F := by
        rcases Nat.lt_or_ge f F with z | z
        · exact z
        · have := Nat.pow_le_pow_right (n := 2) (by decide) z
          omega
      have b2 : F * 1 ≤ F * F := Nat.mul_le_mul_left F (by omega)
      have b3 : full h * (F * F) ≤ h.length * (F * F) := Nat.mul_le_mul_right _ (full_le h)
      have b4 : 1 * (F * F) ≤ full g * (F * F) := Nat.mul_le_mul_right _ fpg
      rw [Nat.mul_comm (F * F) h.length]
      omega
/-! ### the law's own defs -/
def sp_law_part : Spc := fun ds A _ => ∃ a b : Nat, ds = [.int a, .int b] ∧ a ≤ 6000000000000000000000000000000 ∧ b ≤ 6000000000000000000000000000000 ∧ A (.int (Nat.gcd a b))

def w_law_part : WS :=
    (wSeq (wWh (wB (wOp gNe (wV 1) (wC (.int 0)))) (wPar 0 1 (wCons (wV 1) (wCons (wOp gSub (wV 0) (wOp gMul (wOp gDiv (wV 0) (wV 1)) (wV 1))) wNil))))
    (wRet (wV 0)))
theorem pure_law_part : Pure 2 2 sp_law_part w_law_part := by
  rintro ds A B - ⟨a, b, rfl, ha, hb, hA⟩
  have bv := big_v
  simp only [w_law_part, bl?, g2, gAdd, gDiv, gEq, gGe, gGt, gI, gIn, gInt, gIs, gIsNot, gLe, gLen, gList, gLt, gMM, gMod, gMul, gMulS, gNe, gNotIn, gPow, gSorted, gSub, gIadd, gSum, gTuple, puts, sV, sVs, slotM, wAnd, wApp, wAsg, wAug, wAugI, wB, wC, wCall, wCallR, wChain, wCons, wDraw, wDrop, wEnL, wEnT, wExt, wFn, wFnO, wFor, wGCons, wGNil, wGT, wIL, wIT, wIdx, wIf, wIfS, wIsi, wIx, wLc, wLst, wMNil, wMO, wMV, wMix, wN, wNeg, wNil, wNot, wNotT, wO, wOp, wOr, wOwn, wPar, wR1, wR2, wRaise, wRaiseF, wRet, wSeq, wSet, wSetI, wSkip, wTAnd, wTNot, wTOr, wTru, wTry, wTryF, wTup, wV, wYes, wSplit, wJoin, wRstrip, wFmt, wJNil, wJCons, wJs, gStr, gIntS, wIS, gSignNotIn, wSl, wSlt, wPn, wPs, gMulT, wGL, wTryAs, wXf, wXis, wCat, wCatV, wIxV, wDGet, wDIn, wDInT, wDGet2, wDPut, wDisp1, wOwnD, wMD, wForD, wLcD, wFz, wMv, wMinD, gListD, fzS, wDK, wDT, wFldO, wFldS, wMeth, wProp, wLenO, wCallO, wMake, wNewOb, wNewObL, wMethC, gLenD, wDGetV, wPopS, wUpd, wLV, wLI, wForIt, wSortSet, wCallIx, gSortedT, wTabIx, wTree, wForChg, messSlot, wSortLam, wAsgO, startS, List.length_cons, List.length_nil, List.map_cons, List.map_nil, List.getElem?_cons_zero, List.getElem?_cons_succ, List.set_cons_zero, List.set_cons_succ, List.cons_append, List.nil_append, List.append_nil, List.replicate_succ, List.replicate_zero, Nat.reduceAdd, Nat.reduceSub, ↓reduceIte, Bool.false_eq_true, reduceCtorEq, true_and, and_true, true_or, or_true, false_or, or_false, Bool.not_true, Bool.not_false, Bool.true_and, Bool.false_and, Bool.and_true, decide_eq_true_eq, Bool.not_eq_eq_eq_not, exists_eq_left, exists_eq_left', Option.some.injEq]
  refine ⟨b + 1, wh_ok (fun (s : Nat × Nat) S => S = [.im (.int (s.1 : Int)), .im (.int (s.2 : Int))] ∧ Nat.gcd s.1 s.2 = Nat.gcd a b ∧ s.1 ≤ 6000000000000000000000000000000 ∧ s.2 ≤ 6000000000000000000000000000000) (fun s => s.2) ?_ (b + 1) (a, b) _ (Nat.lt_succ_self b) ⟨rfl, rfl, ha, hb⟩⟩
  rintro ⟨x, y⟩ S ⟨rfl, hg, l1, l2⟩ Nx hN
  have hg : Nat.gcd x y = Nat.gcd a b := hg
  have l1 : x ≤ 6000000000000000000000000000000 := l1
  have l2 : y ≤ 6000000000000000000000000000000 := l2
  by_cases c : y = 0
  · subst c
    rw [Nat.gcd_zero_right] at hg
    simp only [bl?, g2, gAdd, gDiv, gEq, gGe, gGt, gI, gIn, gInt, gIs, gIsNot, gLe, gLen, gList, gLt, gMM, gMod, gMul, gMulS, gNe, gNotIn, gPow, gSorted, gSub, gIadd, gSum, gTuple, puts, sV, sVs, slotM, wAnd, wApp, wAsg, wAug, wAugI, wB, wC, wCall, wCallR, wChain, wCons, wDraw, wDrop, wEnL, wEnT, wExt, wFn, wFnO, wFor, wGCons, wGNil, wGT, wIL, wIT, wIdx, wIf, wIfS, wIsi, wIx, wLc, wLst, wMNil, wMO, wMV, wMix, wN, wNeg, wNil, wNot, wNotT, wO, wOp, wOr, wOwn, wPar, wR1, wR2, wRaise, wRaiseF, wRet, wSeq, wSet, wSetI, wSkip, wTAnd, wTNot, wTOr, wTru, wTry, wTryF, wTup, wV, wYes, wSplit, wJoin, wRstrip, wFmt, wJNil, wJCons, wJs, gStr, gIntS, wIS, gSignNotIn, wSl, wSlt, wPn, wPs, gMulT, wGL, wTryAs, wXf, wXis, wCat, wCatV, wIxV, wDGet, wDIn, wDInT, wDGet2, wDPut, wDisp1, wOwnD, wMD, wForD, wLcD, wFz, wMv, wMinD, gListD, fzS, wDK, wDT, wFldO, wFldS, wMeth, wProp, wLenO, wCallO, wMake, wNewOb, wNewObL, wMethC, gLenD, wDGetV, wPopS, wUpd, wLV, wLI, wForIt, wSortSet, wCallIx, gSortedT, wTabIx, wTree, wForChg, messSlot, wSortLam, wAsgO, startS, List.length_cons, List.length_nil, List.map_cons, List.map_nil, List.getElem?_cons_zero, List.getElem?_cons_succ, List.set_cons_zero, List.set_cons_succ, List.cons_append, List.nil_append, List.append_nil, List.replicate_succ, List.replicate_zero, Nat.reduceAdd, Nat.reduceSub, ↓reduceIte, Bool.false_eq_true, reduceCtorEq, true_and, and_true, true_or, or_true, false_or, or_false, Bool.not_true, Bool.not_false, Bool.true_and, Bool.false_and, Bool.and_true, decide_eq_true_eq, Bool.not_eq_eq_eq_not, exists_eq_left, exists_eq_left', Option.some.injEq, shaped_int, eqv_int]
    rw [← hg] at hA
    simpa using hA
  · have c2 : ¬ (y : Int) = 0 := by omega
    have ed : (x : Int) - (x : Int) / (y : Int) * (y : Int) = ((x % y : Nat) : Int) := by
      rw [div_nat, ← Int.natCast_mul]
      have := Nat.div_add_mod x y
      rw [Nat.mul_comm] at this
      omega
    have xd : x / y ≤ x := Nat.div_le_self _ _
    have hm : x % y < y := Nat.mod_lt x (by omega)
    simp only [bl?, g2, gAdd, gDiv, gEq, gGe, gGt, gI, gIn, gInt, gIs, gIsNot, gLe, gLen, gList, gLt, gMM, gMod, gMul, gMulS, gNe, gNotIn, gPow, gSorted, gSub, gIadd, gSum, gTuple, puts, sV, sVs, slotM, wAnd, wApp, wAsg, wAug, wAugI, wB, wC, wCall, wCallR, wChain, wCons, wDraw, wDrop, wEnL, wEnT, wExt, wFn, wFnO, wFor, wGCons, wGNil, wGT, wIL, wIT, wIdx, wIf, wIfS, wIsi, wIx, wLc, wLst, wMNil, wMO, wMV, wMix, wN, wNeg, wNil, wNot, wNotT, wO, wOp, wOr, wOwn, wPar, wR1, wR2, wRaise, wRaiseF, wRet, wSeq, wSet, wSetI, wSkip, wTAnd, wTNot, wTOr, wTru, wTry, wTryF, wTup, wV, wYes, wSplit, wJoin, wRstrip, wFmt, wJNil, wJCons, wJs, gStr, gIntS, wIS, gSignNotIn, wSl, wSlt, wPn, wPs, gMulT, wGL, wTryAs, wXf, wXis, wCat, wCatV, wIxV, wDGet, wDIn, wDInT, wDGet2, wDPut, wDisp1, wOwnD, wMD, wForD, wLcD, wFz, wMv, wMinD, gListD, fzS, wDK, wDT, wFldO, wFldS, wMeth, wProp, wLenO, wCallO, wMake, wNewOb, wNewObL, wMethC, gLenD, wDGetV, wPopS, wUpd, wLV, wLI, wForIt, wSortSet, wCallIx, gSortedT, wTabIx, wTree, wForChg, messSlot, wSortLam, wAsgO, startS, List.length_cons, List.length_nil, List.map_cons, List.map_nil, List.getElem?_cons_zero, List.getElem?_cons_succ, List.set_cons_zero, List.set_cons_succ, List.cons_append, List.nil_append, List.append_nil, List.replicate_succ, List.replicate_zero, Nat.reduceAdd, Nat.reduceSub, ↓reduceIte, Bool.false_eq_true, reduceCtorEq, true_and, and_true, true_or, or_true, false_or, or_false, Bool.not_true, Bool.not_false, Bool.true_and, Bool.false_and, Bool.and_true, decide_eq_true_eq, Bool.not_eq_eq_eq_not, exists_eq_left, exists_eq_left', Option.some.injEq, shaped_int, eqv_int, c2, decide_false, Bool.not_false, ed, flats, flat, Bool.and_self]
    have mm : CMulW ((x / y : Nat) : Int) (y : Int) := by
      generalize x / y = q at xd
      exact mulZ (by omega) (by omega) (by omega) (by omega)
    refine ⟨divZ (by omega) (by omega), mm, hN (y, x % y) _ hm ⟨rfl, ?_, l2, by show x % y ≤ _; omega⟩⟩
    show Nat.gcd y (x % y) = Nat.gcd a b
    rw [← hg, Nat.gcd_comm x y, Nat.gcd_rec y x, Nat.gcd_comm]
def sp_law_odd : Spc := sp_odd_by

def w_law_odd : WS :=
    (wSeq (wSet 1 (wC (.int 0)))
    (wSeq (wFor (wIT (wV 0)) (wN 2) (wSet 1 (wCall sp_law_part (wCons (wV 1) (wCons (wV 2) wNil)))))
    (wSeq (wSet 3 (wOp gDiv (wFn gSum (wCons (wV 0) wNil)) (wV 1)))
    (wSeq (wWh (wB (wOp gEq (wOp gMul (wOp gDiv (wV 3) (wC (.int 2))) (wC (.int 2))) (wV 3))) (wSet 3 (wOp gDiv (wV 3) (wC (.int 2)))))
    (wRet (wV 3))))))
theorem gcd_le_of {g x m : Nat} (h1 : g ≤ m) (h2 : x ≤ m) : Nat.gcd g x ≤ m := by
  rcases Nat.eq_zero_or_pos g with z | z
  · subst z; rw [Nat.gcd_zero_left]; exact h2
  · exact Nat.le_trans (Nat.gcd_le_left x z) h1
theorem pure_law_odd : Pure 4 1 sp_law_odd w_law_odd := by
  rintro ds A B - ⟨h, rfl, o, hA⟩
  obtain ⟨g0, g1, g2⟩ := gcd_pos o
  have R := o.okR
  have bv := big_v
  simp only [w_law_odd, bl?, g2, gAdd, gDiv, gEq, gGe, gGt, gI, gIn, gInt, gIs, gIsNot, gLe, gLen, gList, gLt, gMM, gMod, gMul, gMulS, gNe, gNotIn, gPow, gSorted, gSub, gIadd, gSum, gTuple, puts, sV, sVs, slotM, wAnd, wApp, wAsg, wAug, wAugI, wB, wC, wCall, wCallR, wChain, wCons, wDraw, wDrop, wEnL, wEnT, wExt, wFn, wFnO, wFor, wGCons, wGNil, wGT, wIL, wIT, wIdx, wIf, wIfS, wIsi, wIx, wLc, wLst, wMNil, wMO, wMV, wMix, wN, wNeg, wNil, wNot, wNotT, wO, wOp, wOr, wOwn, wPar, wR1, wR2, wRaise, wRaiseF, wRet, wSeq, wSet, wSetI, wSkip, wTAnd, wTNot, wTOr, wTru, wTry, wTryF, wTup, wV, wYes, wSplit, wJoin, wRstrip, wFmt, wJNil, wJCons, wJs, gStr, gIntS, wIS, gSignNotIn, wSl, wSlt, wPn, wPs, gMulT, wGL, wTryAs, wXf, wXis, wCat, wCatV, wIxV, wDGet, wDIn, wDInT, wDGet2, wDPut, wDisp1, wOwnD, wMD, wForD, wLcD, wFz, wMv, wMinD, gListD, fzS, wDK, wDT, wFldO, wFldS, wMeth, wProp, wLenO, wCallO, wMake, wNewOb, wNewObL, wMethC, gLenD, wDGetV, wPopS, wUpd, wLV, wLI, wForIt, wSortSet, wCallIx, gSortedT, wTabIx, wTree, wForChg, messSlot, wSortLam, wAsgO, startS, List.length_cons, List.length_nil, List.map_cons, List.map_nil, List.getElem?_cons_zero, List.getElem?_cons_succ, List.set_cons_zero, List.set_cons_succ, List.cons_append, List.nil_append, List.append_nil, List.replicate_succ, List.replicate_zero, Nat.reduceAdd, Nat.reduceSub, ↓reduceIte, Bool.false_eq_true, reduceCtorEq, true_and, and_true, true_or, or_true, false_or, or_false, Bool.not_true, Bool.not_false, Bool.true_and, Bool.false_and, Bool.and_true, decide_eq_true_eq, Bool.not_eq_eq_eq_not, exists_eq_left, exists_eq_left', Option.some.injEq, eH]
  refine for_inv (fun r S => ∃ q s2, r = q.map PyData.int ∧ (∀ x ∈ q, 0 ≤ x ∧ x ≤ big) ∧ ∃ g : Nat, S = [.im (.tuple (h.map .int)), .im (.int (g : Int)), s2, .un] ∧ g ≤ 6000000000000000000000000000000 ∧ q.foldl (fun g x => Nat.gcd g x.toNat) g = gcdH h) _ _ ?_ ⟨h, _, rfl, o.rg, 0, rfl, Nat.zero_le _, rfl⟩ ?_
  · rintro d r S ⟨q, s2, er, hq, g, rfl, gl, eg⟩ Nx hN
    cases q with
    | nil => cases er
    | cons x q =>
      cases er
      obtain ⟨x0, x1⟩ := hq x List.mem_cons_self
      have xl : x.toNat ≤ 6000000000000000000000000000000 := by omega
      simp only [bl?, g2, gAdd, gDiv, gEq, gGe, gGt, gI, gIn, gInt, gIs, gIsNot, gLe, gLen, gList, gLt, gMM, gMod, gMul, gMulS, gNe, gNotIn, gPow, gSorted, gSub, gIadd, gSum, gTuple, puts, sV, sVs, slotM, wAnd, wApp, wAsg, wAug, wAugI, wB, wC, wCall, wCallR, wChain, wCons, wDraw, wDrop, wEnL, wEnT, wExt, wFn, wFnO, wFor, wGCons, wGNil, wGT, wIL, wIT, wIdx, wIf, wIfS, wIsi, wIx, wLc, wLst, wMNil, wMO, wMV, wMix, wN, wNeg, wNil, wNot, wNotT, wO, wOp, wOr, wOwn, wPar, wR1, wR2, wRaise, wRaiseF, wRet, wSeq, wSet, wSetI, wSkip, wTAnd, wTNot, wTOr, wTru, wTry, wTryF, wTup, wV, wYes, wSplit, wJoin, wRstrip, wFmt, wJNil, wJCons, wJs, gStr, gIntS, wIS, gSignNotIn, wSl, wSlt, wPn, wPs, gMulT, wGL, wTryAs, wXf, wXis, wCat, wCatV, wIxV, wDGet, wDIn, wDInT, wDGet2, wDPut, wDisp1, wOwnD, wMD, wForD, wLcD, wFz, wMv, wMinD, gListD, fzS, wDK, wDT, wFldO, wFldS, wMeth, wProp, wLenO, wCallO, wMake, wNewOb, wNewObL, wMethC, gLenD, wDGetV, wPopS, wUpd, wLV, wLI, wForIt, wSortSet, wCallIx, gSortedT, wTabIx, wTree, wForChg, messSlot, wSortLam, wAsgO, startS, List.length_cons, List.length_nil, List.map_cons, List.map_nil, List.getElem?_cons_zero, List.getElem?_cons_succ, List.set_cons_zero, List.set_cons_succ, List.cons_append, List.nil_append, List.append_nil, List.replicate_succ, List.replicate_zero, Nat.reduceAdd, Nat.reduceSub, ↓reduceIte, Bool.false_eq_true, reduceCtorEq, true_and, and_true, true_or, or_true, false_or, or_false, Bool.not_true, Bool.not_false, Bool.true_and, Bool.false_and, Bool.and_true, decide_eq_true_eq, Bool.not_eq_eq_eq_not, exists_eq_left, exists_eq_left', Option.some.injEq, flat_int]
      refine ⟨g, x.toNat, by rw [cast_toNat x0], gl, xl, hN _ ⟨q, _, rfl, fun y hy => hq y (List.mem_cons_of_mem _ hy), _, rfl, gcd_le_of gl xl, eg⟩⟩
  · rintro S ⟨q, s2, er, hq, g, rfl, gl, eg⟩
    cases q with
    | cons x q => cases er
    | nil =>
      have eg : g = gcdH h := eg
      subst eg
      have es : h.sum = ((h.sum.toNat : Nat) : Int) := (cast_toNat (by have := R.s1; omega)).symm
      have en : h.sum / ((gcdH h : Nat) : Int) = ((h.sum.toNat / gcdH h : Nat) : Int) := by
        conv => lhs; rw [es]
        rfl
      have nl : h.sum.toNat / gcdH h ≤ h.sum.toNat := Nat.div_le_self _ _
      have sl := R.s6
      simp only [bl?, g2, gAdd, gDiv, gEq, gGe, gGt, gI, gIn, gInt, gIs, gIsNot, gLe, gLen, gList, gLt, gMM, gMod, gMul, gMulS, gNe, gNotIn, gPow, gSorted, gSub, gIadd, gSum, gTuple, puts, sV, sVs, slotM, wAnd, wApp, wAsg, wAug, wAugI, wB, wC, wCall, wCallR, wChain, wCons, wDraw, wDrop, wEnL, wEnT, wExt, wFn, wFnO, wFor, wGCons, wGNil, wGT, wIL, wIT, wIdx, wIf, wIfS, wIsi, wIx, wLc, wLst, wMNil, wMO, wMV, wMix, wN, wNeg, wNil, wNot, wNotT, wO, wOp, wOr, wOwn, wPar, wR1, wR2, wRaise, wRaiseF, wRet, wSeq, wSet, wSetI, wSkip, wTAnd, wTNot, wTOr, wTru, wTry, wTryF, wTup, wV, wYes, wSplit, wJoin, wRstrip, wFmt, wJNil, wJCons, wJs, gStr, gIntS, wIS, gSignNotIn, wSl, wSlt, wPn, wPs, gMulT, wGL, wTryAs, wXf, wXis, wCat, wCatV, wIxV, wDGet, wDIn, wDInT, wDGet2, wDPut, wDisp1, wOwnD, wMD, wForD, wLcD, wFz, wMv, wMinD, gListD, fzS, wDK, wDT, wFldO, wFldS, wMeth, wProp, wLenO, wCallO, wMake, wNewOb, wNewObL, wMethC, gLenD, wDGetV, wPopS, wUpd, wLV, wLI, wForIt, wSortSet, wCallIx, gSortedT, wTabIx, wTree, wForChg, messSlot, wSortLam, wAsgO, startS, List.length_cons, List.length_nil, List.map_cons, List.map_nil, List.getElem?_cons_zero, List.getElem?_cons_succ, List.set_cons_zero, List.set_cons_succ, List.cons_append, List.nil_append, List.append_nil, List.replicate_succ, List.replicate_zero, Nat.reduceAdd, Nat.reduceSub, ↓reduceIte, Bool.false_eq_true, reduceCtorEq, true_and, and_true, true_or, or_true, false_or, or_false, Bool.not_true, Bool.not_false, Bool.true_and, Bool.false_and, Bool.and_true, decide_eq_true_eq, Bool.not_eq_eq_eq_not, exists_eq_left, exists_eq_left', Option.some.injEq, flat_int]
      refine ⟨h, ints?_map h, divZ (by omega) (by omega), ?_⟩
      rw [en]
      have hO : ∀ l f, h.sum.toNat / gcdH h = l * 2 ^ f → l % 2 = 1 → A (.int (l : Int)) := fun l f e1 e2 => hA l f ⟨e1, e2⟩
      generalize h.sum.toNat / gcdH h = n at hO g2 nl
      refine ⟨n + 1, wh_ok (fun (s : Nat × Nat) S => ∃ s2, S = [.im (.tuple (h.map .int)), .im (.int ((gcdH h : Nat) : Int)), s2, .im (.int (s.1 : Int))] ∧ 1 ≤ s.1 ∧ s.1 ≤ n ∧ n = s.1 * 2 ^ s.2) (fun s => s.1) ?_ (n + 1) (n, 0) _ (Nat.lt_succ_self n) ⟨_, rfl, g2, Nat.le_refl _, by rw [Nat.pow_zero, Nat.mul_one]⟩⟩
      rintro ⟨y, f⟩ S ⟨s2, rfl, hy, hy2, hn⟩ Nx hN
      have hy : 1 ≤ y := hy
      have hy2 : y ≤ n := hy2
      have hn : n = y * 2 ^ f := hn
      have e4 : ((y : Int) / 2) = ((y / 2 : Nat) : Int) := rfl
      have d2 : CDivW (y : Int) 2 := ⟨by decide, by decide⟩
      have mm : CMulW ((y / 2 : Nat) : Int) 2 := mulZ (by omega) (by omega) (by decide) (by decide)
      have e5 : ((y / 2 : Nat) : Int) * 2 = ((y / 2 * 2 : Nat) : Int) := by omega
      simp only [bl?, g2, gAdd, gDiv, gEq, gGe, gGt, gI, gIn, gInt, gIs, gIsNot, gLe, gLen, gList, gLt, gMM, gMod, gMul, gMulS, gNe, gNotIn, gPow, gSorted, gSub, gIadd, gSum, gTuple, puts, sV, sVs, slotM, wAnd, wApp, wAsg, wAug, wAugI, wB, wC, wCall, wCallR, wChain, wCons, wDraw, wDrop, wEnL, wEnT, wExt, wFn, wFnO, wFor, wGCons, wGNil, wGT, wIL, wIT, wIdx, wIf, wIfS, wIsi, wIx, wLc, wLst, wMNil, wMO, wMV, wMix, wN, wNeg, wNil, wNot, wNotT, wO, wOp, wOr, wOwn, wPar, wR1, wR2, wRaise, wRaiseF, wRet, wSeq, wSet, wSetI, wSkip, wTAnd, wTNot, wTOr, wTru, wTry, wTryF, wTup, wV, wYes, wSplit, wJoin, wRstrip, wFmt, wJNil, wJCons, wJs, gStr, gIntS, wIS, gSignNotIn, wSl, wSlt, wPn, wPs, gMulT, wGL, wTryAs, wXf, wXis, wCat, wCatV, wIxV, wDGet, wDIn, wDInT, wDGet2, wDPut, wDisp1, wOwnD, wMD, wForD, wLcD, wFz, wMv, wMinD, gListD, fzS, wDK, wDT, wFldO, wFldS, wMeth, wProp, wLenO, wCallO, wMake, wNewOb, wNewObL, wMethC, gLenD, wDGetV, wPopS, wUpd, wLV, wLI, wForIt, wSortSet, wCallIx, gSortedT, wTabIx, wTree, wForChg, messSlot, wSortLam, wAsgO, startS, List.length_cons, List.length_nil, List.map_cons, List.map_nil, List.getElem?_cons_zero, List.getElem?_cons_succ, List.set_cons_zero, List.set_cons_succ, List.cons_append, List.nil_append, List.append_nil, List.replicate_succ, List.replicate_zero, Nat.reduceAdd, Nat.reduceSub, ↓reduceIte, Bool.false_eq_true, reduceCtorEq, true_and, and_true, true_or, or_true, false_or, or_false, Bool.not_true, Bool.not_false, Bool.true_and, Bool.false_and, Bool.and_true, decide_eq_true_eq, Bool.not_eq_eq_eq_not, exists_eq_left, exists_eq_left', Option.some.injEq, e4, shaped_int, eqv_int, flat, e5]
      by_cases c : y / 2 * 2 = y
      · have c' : (((y / 2 * 2 : Nat) : Int) = (y : Int)) := by omega
        simp only [c', decide_true, startS, List.length_cons, List.length_nil, List.map_cons, List.map_nil, List.getElem?_cons_zero, List.getElem?_cons_succ, List.set_cons_zero, List.set_cons_succ, List.cons_append, List.nil_append, List.append_nil, List.replicate_succ, List.replicate_zero, Nat.reduceAdd, Nat.reduceSub, ↓reduceIte, Bool.false_eq_true, reduceCtorEq, true_and, and_true, true_or, or_true, false_or, or_false, Bool.not_true, Bool.not_false, Bool.true_and, Bool.false_and, Bool.and_true, decide_eq_true_eq, Bool.not_eq_eq_eq_not, exists_eq_left, exists_eq_left', Option.some.injEq]
        refine ⟨d2, mm, d2, hN (y / 2, f + 1) _ (by show y / 2 < y; omega) ⟨_, rfl, by show 1 ≤ y / 2; omega, by show y / 2 ≤ n; omega, ?_⟩⟩
        show n = y / 2 * 2 ^ (f + 1)
        rw [hn, Nat.pow_succ, Nat.mul_comm (2 ^ f) 2, ← Nat.mul_assoc]
        congr 1
        omega
      · have c' : ¬ (((y / 2 * 2 : Nat) : Int) = (y : Int)) := by omega
        simp only [c', decide_false, startS, List.length_cons, List.length_nil, List.map_cons, List.map_nil, List.getElem?_cons_zero, List.getElem?_cons_succ, List.set_cons_zero, List.set_cons_succ, List.cons_append, List.nil_append, List.append_nil, List.replicate_succ, List.replicate_zero, Nat.reduceAdd, Nat.reduceSub, ↓reduceIte, Bool.false_eq_true, reduceCtorEq, true_and, and_true, true_or, or_true, false_or, or_false, Bool.not_true, Bool.not_false, Bool.true_and, Bool.false_and, Bool.and_true, decide_eq_true_eq, Bool.not_eq_eq_eq_not, exists_eq_left, exists_eq_left', Option.some.injEq]
        exact ⟨d2, mm, hO y f hn (by omega)⟩
theorem mem_pairs {n : Nat} {s : Nat × Nat} (o : okS n s) : s ∈ pairsOf n := by
  obtain ⟨h1, h2, h3⟩ := o
  unfold pairsOf
  refine List.mem_flatMap.mpr ⟨s.1, List.mem_range.mpr h1, List.mem_map.mpr ⟨s.2, List.mem_filter.mpr ⟨List.mem_range.mpr h2, decide_eq_true fun z => h3 z.symm⟩, rfl⟩⟩
theorem shaped_eL (p : List (Nat × Nat)) : SeqAt.shaped (.list (p.map eP)) = true := shaped_list canLay_eP (fun s => by rw [depth_eP]; exact Nat.le_refl 1) (by decide) p
def sp_law_gone : Spc := fun ds A _ => ∃ h p g, ds = [eH h, eL p] ∧ h.length ≤ 6 ∧ runs h p g ∧ A (eH g)

def w_law_gone : WS :=
    (wSeq (wIfS (wTNot (wB (wIsi "tuple" (wV 1)))) (wRet (wC .none)) wSkip)
    (wSeq (wSet 2 (wCall sp_law_pairs (wCons (wFn gLen (wCons (wV 0) wNil)) wNil)))
    (wSeq (wFor (wIT (wV 1)) (wN 3) (wSeq (wIfS (wTOr (wB (wOp gNotIn (wV 3) (wV 2))) (wTNot (wB (wCall sp_law_can (wCons (wV 0) (wCons (wV 3) wNil)))))) (wRet (wC .none)) wSkip)
    (wSet 0 (wCall sp_law_behind (wCons (wV 0) (wCons (wV 3) wNil))))))
    (wRet (wV 0)))))
theorem any_pairs {n : Nat} {s : Nat × Nat} (o : okS n s) : ((pairsOf n).map eP).any (fun z => PyData.eqv z (eP s)) = true := by
  rw [List.any_map, List.any_eq_true]
  exact ⟨s, mem_pairs o, by show PyData.eqv (eP s) (eP s) = true; rw [eqv_eP]; exact decide_eq_true rfl⟩
theorem pure_law_gone : Pure 4 2 sp_law_gone w_law_gone := by
  rintro ds A B - ⟨h, p, g, rfl, l6, r, hA⟩
  simp only [w_law_gone, bl?, g2, gAdd, gDiv, gEq, gGe, gGt, gI, gIn, gInt, gIs, gIsNot, gLe, gLen, gList, gLt, gMM, gMod, gMul, gMulS, gNe, gNotIn, gPow, gSorted, gSub, gIadd, gSum, gTuple, puts, sV, sVs, slotM, wAnd, wApp, wAsg, wAug, wAugI, wB, wC, wCall, wCallR, wChain, wCons, wDraw, wDrop, wEnL, wEnT, wExt, wFn, wFnO, wFor, wGCons, wGNil, wGT, wIL, wIT, wIdx, wIf, wIfS, wIsi, wIx, wLc, wLst, wMNil, wMO, wMV, wMix, wN, wNeg, wNil, wNot, wNotT, wO, wOp, wOr, wOwn, wPar, wR1, wR2, wRaise, wRaiseF, wRet, wSeq, wSet, wSetI, wSkip, wTAnd, wTNot, wTOr, wTru, wTry, wTryF, wTup, wV, wYes, wSplit, wJoin, wRstrip, wFmt, wJNil, wJCons, wJs, gStr, gIntS, wIS, gSignNotIn, wSl, wSlt, wPn, wPs, gMulT, wGL, wTryAs, wXf, wXis, wCat, wCatV, wIxV, wDGet, wDIn, wDInT, wDGet2, wDPut, wDisp1, wOwnD, wMD, wForD, wLcD, wFz, wMv, wMinD, gListD, fzS, wDK, wDT, wFldO, wFldS, wMeth, wProp, wLenO, wCallO, wMake, wNewOb, wNewObL, wMethC, gLenD, wDGetV, wPopS, wUpd, wLV, wLI, wForIt, wSortSet, wCallIx, gSortedT, wTabIx, wTree, wForChg, messSlot, wSortLam, wAsgO, startS, List.length_cons, List.length_nil, List.map_cons, List.map_nil, List.getElem?_cons_zero, List.getElem?_cons_succ, List.set_cons_zero, List.set_cons_succ, List.cons_append, List.nil_append, List.append_nil, List.replicate_succ, List.replicate_zero, Nat.reduceAdd, Nat.reduceSub, ↓reduceIte, Bool.false_eq_true, reduceCtorEq, true_and, and_true, true_or, or_true, false_or, or_false, Bool.not_true, Bool.not_false, Bool.true_and, Bool.false_and, Bool.and_true, decide_eq_true_eq, Bool.not_eq_eq_eq_not, exists_eq_left, exists_eq_left', Option.some.injEq, eL, typ_tup, isT_tt]
  refine ⟨by simp [typD], h.length, ?_, l6, ?_⟩
  · simp [eH]
  show forL _ _ _ _ (p.map eP) _
  refine for_inv (fun rest S => ∃ h' q s3, rest = q.map eP ∧ S = [.im (eH h'), .im (.tuple (p.map eP)), .im (.list ((pairsOf h.length).map eP)), s3] ∧ runs h' q g ∧ h'.length = h.length) _ _ ?_ ⟨h, p, _, rfl, rfl, r, rfl⟩ ?_
  · rintro d rest S ⟨h', q, s3, er, rfl, rq, lh⟩ Nx hN
    cases q with
    | nil => cases er
    | cons s q =>
      cases er
      obtain ⟨os, cs, rq⟩ := rq
      have os' : okS h.length s := by rw [← lh]; exact os
      simp only [bl?, g2, gAdd, gDiv, gEq, gGe, gGt, gI, gIn, gInt, gIs, gIsNot, gLe, gLen, gList, gLt, gMM, gMod, gMul, gMulS, gNe, gNotIn, gPow, gSorted, gSub, gIadd, gSum, gTuple, puts, sV, sVs, slotM, wAnd, wApp, wAsg, wAug, wAugI, wB, wC, wCall, wCallR, wChain, wCons, wDraw, wDrop, wEnL, wEnT, wExt, wFn, wFnO, wFor, wGCons, wGNil, wGT, wIL, wIT, wIdx, wIf, wIfS, wIsi, wIx, wLc, wLst, wMNil, wMO, wMV, wMix, wN, wNeg, wNil, wNot, wNotT, wO, wOp, wOr, wOwn, wPar, wR1, wR2, wRaise, wRaiseF, wRet, wSeq, wSet, wSetI, wSkip, wTAnd, wTNot, wTOr, wTru, wTry, wTryF, wTup, wV, wYes, wSplit, wJoin, wRstrip, wFmt, wJNil, wJCons, wJs, gStr, gIntS, wIS, gSignNotIn, wSl, wSlt, wPn, wPs, gMulT, wGL, wTryAs, wXf, wXis, wCat, wCatV, wIxV, wDGet, wDIn, wDInT, wDGet2, wDPut, wDisp1, wOwnD, wMD, wForD, wLcD, wFz, wMv, wMinD, gListD, fzS, wDK, wDT, wFldO, wFldS, wMeth, wProp, wLenO, wCallO, wMake, wNewOb, wNewObL, wMethC, gLenD, wDGetV, wPopS, wUpd, wLV, wLI, wForIt, wSortSet, wCallIx, gSortedT, wTabIx, wTree, wForChg, messSlot, wSortLam, wAsgO, startS, List.length_cons, List.length_nil, List.map_cons, List.map_nil, List.getElem?_cons_zero, List.getElem?_cons_succ, List.set_cons_zero, List.set_cons_succ, List.cons_append, List.nil_append, List.append_nil, List.replicate_succ, List.replicate_zero, Nat.reduceAdd, Nat.reduceSub, ↓reduceIte, Bool.false_eq_true, reduceCtorEq, true_and, and_true, true_or, or_true, false_or, or_false, Bool.not_true, Bool.not_false, Bool.true_and, Bool.false_and, Bool.and_true, decide_eq_true_eq, Bool.not_eq_eq_eq_not, exists_eq_left, exists_eq_left', Option.some.injEq, flat_eP, shaped_eP, shaped_eL, any_pairs os']
      refine can_use os.1 os.2.1 ?_
      simp only [cs, startS, List.length_cons, List.length_nil, List.map_cons, List.map_nil, List.getElem?_cons_zero, List.getElem?_cons_succ, List.set_cons_zero, List.set_cons_succ, List.cons_append, List.nil_append, List.append_nil, List.replicate_succ, List.replicate_zero, Nat.reduceAdd, Nat.reduceSub, ↓reduceIte, Bool.false_eq_true, reduceCtorEq, true_and, and_true, true_or, or_true, false_or, or_false, Bool.not_true, Bool.not_false, Bool.true_and, Bool.false_and, Bool.and_true, decide_eq_true_eq, Bool.not_eq_eq_eq_not, exists_eq_left, exists_eq_left', Option.some.injEq]
      refine beh_use os.1 os.2.1 ?_
      exact hN _ ⟨beh h' s, q, _, rfl, rfl, rq, by rw [beh_len]; exact lh⟩
  · rintro S ⟨h', q, s3, er, rfl, rq, lh⟩
    cases q with
    | cons s q => cases er
    | nil =>
      have e : g = h' := rq
      rw [e] at hA
      exact hA
def sp_law_full : Spc := fun ds A _ => ∃ h, ds = [eH h] ∧ h.length ≤ 6 ∧ A (.int ((full h : Nat) : Int))

def w_law_full : WS :=
    (wRet (wFn gLen (wCons (wO (wLc (wIT (wV 0)) (wN 1) (wB (wOp gGt (wV 1) (wC (.int 0)))) (wV 1) [1])) wNil)))
theorem pure_law_full : Pure 2 1 sp_law_full w_law_full := by
  rintro ds A B - ⟨h, rfl, l6, hA⟩
  simp only [w_law_full, bl?, g2, gAdd, gDiv, gEq, gGe, gGt, gI, gIn, gInt, gIs, gIsNot, gLe, gLen, gList, gLt, gMM, gMod, gMul, gMulS, gNe, gNotIn, gPow, gSorted, gSub, gIadd, gSum, gTuple, puts, sV, sVs, slotM, wAnd, wApp, wAsg, wAug, wAugI, wB, wC, wCall, wCallR, wChain, wCons, wDraw, wDrop, wEnL, wEnT, wExt, wFn, wFnO, wFor, wGCons, wGNil, wGT, wIL, wIT, wIdx, wIf, wIfS, wIsi, wIx, wLc, wLst, wMNil, wMO, wMV, wMix, wN, wNeg, wNil, wNot, wNotT, wO, wOp, wOr, wOwn, wPar, wR1, wR2, wRaise, wRaiseF, wRet, wSeq, wSet, wSetI, wSkip, wTAnd, wTNot, wTOr, wTru, wTry, wTryF, wTup, wV, wYes, wSplit, wJoin, wRstrip, wFmt, wJNil, wJCons, wJs, gStr, gIntS, wIS, gSignNotIn, wSl, wSlt, wPn, wPs, gMulT, wGL, wTryAs, wXf, wXis, wCat, wCatV, wIxV, wDGet, wDIn, wDInT, wDGet2, wDPut, wDisp1, wOwnD, wMD, wForD, wLcD, wFz, wMv, wMinD, gListD, fzS, wDK, wDT, wFldO, wFldS, wMeth, wProp, wLenO, wCallO, wMake, wNewOb, wNewObL, wMethC, gLenD, wDGetV, wPopS, wUpd, wLV, wLI, wForIt, wSortSet, wCallIx, gSortedT, wTabIx, wTree, wForChg, messSlot, wSortLam, wAsgO, startS, List.length_cons, List.length_nil, List.map_cons, List.map_nil, List.getElem?_cons_zero, List.getElem?_cons_succ, List.set_cons_zero, List.set_cons_succ, List.cons_append, List.nil_append, List.append_nil, List.replicate_succ, List.replicate_zero, Nat.reduceAdd, Nat.reduceSub, ↓reduceIte, Bool.false_eq_true, reduceCtorEq, true_and, and_true, true_or, or_true, false_or, or_false, Bool.not_true, Bool.not_false, Bool.true_and, Bool.false_and, Bool.and_true, decide_eq_true_eq, Bool.not_eq_eq_eq_not, exists_eq_left, exists_eq_left', Option.some.injEq, eH, List.all_cons, List.all_nil, notRng, isMut]
  refine lc_ok PyData.int (fun x => decide (0 < x)) PyData.int h [] True (fun x hx Yes No hy hno => ?_) (by simp; omega) trivial fun c' hc' => ?_
  · simp only [bl?, g2, gAdd, gDiv, gEq, gGe, gGt, gI, gIn, gInt, gIs, gIsNot, gLe, gLen, gList, gLt, gMM, gMod, gMul, gMulS, gNe, gNotIn, gPow, gSorted, gSub, gIadd, gSum, gTuple, puts, sV, sVs, slotM, wAnd, wApp, wAsg, wAug, wAugI, wB, wC, wCall, wCallR, wChain, wCons, wDraw, wDrop, wEnL, wEnT, wExt, wFn, wFnO, wFor, wGCons, wGNil, wGT, wIL, wIT, wIdx, wIf, wIfS, wIsi, wIx, wLc, wLst, wMNil, wMO, wMV, wMix, wN, wNeg, wNil, wNot, wNotT, wO, wOp, wOr, wOwn, wPar, wR1, wR2, wRaise, wRaiseF, wRet, wSeq, wSet, wSetI, wSkip, wTAnd, wTNot, wTOr, wTru, wTry, wTryF, wTup, wV, wYes, wSplit, wJoin, wRstrip, wFmt, wJNil, wJCons, wJs, gStr, gIntS, wIS, gSignNotIn, wSl, wSlt, wPn, wPs, gMulT, wGL, wTryAs, wXf, wXis, wCat, wCatV, wIxV, wDGet, wDIn, wDInT, wDGet2, wDPut, wDisp1, wOwnD, wMD, wForD, wLcD, wFz, wMv, wMinD, gListD, fzS, wDK, wDT, wFldO, wFldS, wMeth, wProp, wLenO, wCallO, wMake, wNewOb, wNewObL, wMethC, gLenD, wDGetV, wPopS, wUpd, wLV, wLI, wForIt, wSortSet, wCallIx, gSortedT, wTabIx, wTree, wForChg, messSlot, wSortLam, wAsgO, startS, List.length_cons, List.length_nil, List.map_cons, List.map_nil, List.getElem?_cons_zero, List.getElem?_cons_succ, List.set_cons_zero, List.set_cons_succ, List.cons_append, List.nil_append, List.append_nil, List.replicate_succ, List.replicate_zero, Nat.reduceAdd, Nat.reduceSub, ↓reduceIte, Bool.false_eq_true, reduceCtorEq, true_and, and_true, true_or, or_true, false_or, or_false, Bool.not_true, Bool.not_false, Bool.true_and, Bool.false_and, Bool.and_true, decide_eq_true_eq, Bool.not_eq_eq_eq_not, exists_eq_left, exists_eq_left', Option.some.injEq, wipeS, flat_int]
    by_cases c : 0 < x
    · simp only [c, decide_true, startS, List.length_cons, List.length_nil, List.map_cons, List.map_nil, List.getElem?_cons_zero, List.getElem?_cons_succ, List.set_cons_zero, List.set_cons_succ, List.cons_append, List.nil_append, List.append_nil, List.replicate_succ, List.replicate_zero, Nat.reduceAdd, Nat.reduceSub, ↓reduceIte, Bool.false_eq_true, reduceCtorEq, true_and, and_true, true_or, or_true, false_or, or_false, Bool.not_true, Bool.not_false, Bool.true_and, Bool.false_and, Bool.and_true, decide_eq_true_eq, Bool.not_eq_eq_eq_not, exists_eq_left, exists_eq_left', Option.some.injEq]
      exact hy (decide_eq_true c)
    · simp only [c, decide_false, startS, List.length_cons, List.length_nil, List.map_cons, List.map_nil, List.getElem?_cons_zero, List.getElem?_cons_succ, List.set_cons_zero, List.set_cons_succ, List.cons_append, List.nil_append, List.append_nil, List.replicate_succ, List.replicate_zero, Nat.reduceAdd, Nat.reduceSub, ↓reduceIte, Bool.false_eq_true, reduceCtorEq, true_and, and_true, true_or, or_true, false_or, or_false, Bool.not_true, Bool.not_false, Bool.true_and, Bool.false_and, Bool.and_true, decide_eq_true_eq, Bool.not_eq_eq_eq_not, exists_eq_left, exists_eq_left', Option.some.injEq]
      exact hno (decide_eq_false c)
  · have e : ((([] : List PyData) ++ List.map PyData.int (List.filter (fun x => decide (0 < x)) h)).length : Int) = ((full h : Nat) : Int) := by
      rw [List.nil_append, List.length_map, full_filter]
    simp only [bl?, g2, gAdd, gDiv, gEq, gGe, gGt, gI, gIn, gInt, gIs, gIsNot, gLe, gLen, gList, gLt, gMM, gMod, gMul, gMulS, gNe, gNotIn, gPow, gSorted, gSub, gIadd, gSum, gTuple, puts, sV, sVs, slotM, wAnd, wApp, wAsg, wAug, wAugI, wB, wC, wCall, wCallR, wChain, wCons, wDraw, wDrop, wEnL, wEnT, wExt, wFn, wFnO, wFor, wGCons, wGNil, wGT, wIL, wIT, wIdx, wIf, wIfS, wIsi, wIx, wLc, wLst, wMNil, wMO, wMV, wMix, wN, wNeg, wNil, wNot, wNotT, wO, wOp, wOr, wOwn, wPar, wR1, wR2, wRaise, wRaiseF, wRet, wSeq, wSet, wSetI, wSkip, wTAnd, wTNot, wTOr, wTru, wTry, wTryF, wTup, wV, wYes, wSplit, wJoin, wRstrip, wFmt, wJNil, wJCons, wJs, gStr, gIntS, wIS, gSignNotIn, wSl, wSlt, wPn, wPs, gMulT, wGL, wTryAs, wXf, wXis, wCat, wCatV, wIxV, wDGet, wDIn, wDInT, wDGet2, wDPut, wDisp1, wOwnD, wMD, wForD, wLcD, wFz, wMv, wMinD, gListD, fzS, wDK, wDT, wFldO, wFldS, wMeth, wProp, wLenO, wCallO, wMake, wNewOb, wNewObL, wMethC, gLenD, wDGetV, wPopS, wUpd, wLV, wLI, wForIt, wSortSet, wCallIx, gSortedT, wTabIx, wTree, wForChg, messSlot, wSortLam, wAsgO, startS, List.length_cons, List.length_nil, List.map_cons, List.map_nil, List.getElem?_cons_zero, List.getElem?_cons_succ, List.set_cons_zero, List.set_cons_succ, List.cons_append, List.nil_append, List.append_nil, List.replicate_succ, List.replicate_zero, Nat.reduceAdd, Nat.reduceSub, ↓reduceIte, Bool.false_eq_true, reduceCtorEq, true_and, and_true, true_or, or_true, false_or, or_false, Bool.not_true, Bool.not_false, Bool.true_and, Bool.false_and, Bool.and_true, decide_eq_true_eq, Bool.not_eq_eq_eq_not, exists_eq_left, exists_eq_left', Option.some.injEq]
    rw [← e] at hA
    exact hA
def sp_law_some : Spc := fun ds A _ => ds = [] ∧ ∀ h, OkH h → A (eH h)
def w_law_some_1 : WS :=
    (wSet 1 (wCallR 0 sp_law_heaps (wCons (wC (.int 2)) (wCons (wC (.int 6)) wNil))))
def w_law_some_2 : WS :=
    (wIfS (wB (wOp gEq (wDraw 0 (wC (.int 2))) (wC (.int 0)))) (wRet (wV 1)) wSkip)
def w_law_some_3 : WS :=
    (wSet 2 (wC (.int 1)))
def w_law_some_4 : WS :=
    (wWh (wB (wOp gLt (wV 2) (wFn gSum (wCons (wV 1) wNil)))) (wSet 2 (wOp gMul (wV 2) (wC (.int 2)))))
def w_law_some_5 : WS :=
    (wIfS (wB (wOp gGt (wOp gSub (wOp gAdd (wIx (wV 1) (wC (.int 0))) (wV 2)) (wFn gSum (wCons (wV 1) wNil))) (wOp gPow (wC (.int 10)) (wC (.int 30))))) (wRet (wV 1)) wSkip)
def w_law_some_6 : WS :=
    (wSet 3 (wIf (wB (wOp gGt (wFn (gMM max) (wCons (wV 1) wNil)) (wOp gPow (wC (.int 10)) (wC (.int 9))))) (wC (.int 1)) (wIx (wO (wLst (wCons (wC (.int 1)) (wCons (wC (.int 3)) (wCons (wC (.int 10)) wNil))))) (wDraw 0 (wC (.int 3))))))
def w_law_some_7 : WS :=
    (wSet 4 (wOp gAdd (wTup (wCons (wOp gSub (wOp gAdd (wIx (wV 1) (wC (.int 0))) (wV 2)) (wFn gSum (wCons (wV 1) wNil))) wNil)) (wSlt (wV 1) (wPs (wC (.int 1))) wPn)))
def w_law_some_8 : WS :=
    (wRet (wFn gTuple (wCons (wO (wLc (wIT (wV 4)) (wN 5) wYes (wOp gMul (wV 3) (wV 5)) [5])) wNil)))
def w_law_some : WS :=
    (wSeq w_law_some_1
    (wSeq w_law_some_2
    (wSeq w_law_some_3
    (wSeq w_law_some_4
    (wSeq w_law_some_5
    (wSeq w_law_some_6
    (wSeq w_law_some_7
    w_law_some_8)))))))
theorem three_at {r : Int} (h0 : 0 ≤ r) (h3 : r < 3) : ∃ z : Int, atD [.int 1, .int 3, .int 10] r = some (.int z) ∧ 1 ≤ z ∧ z ≤ 10 := by
  have e : r = 0 ∨ r = 1 ∨ r = 2 := by omega
  rcases e with e | e | e <;> subst e <;> exact ⟨_, rfl, by decide, by decide⟩
theorem cut1 (x : PyData) (r : List PyData) : cutL (x :: r) (some 1) none = r := by
  have e1 : HT.sIx (x :: r).length 0 (some 1) = 1 := by
    simp [HT.sIx]
  have e2 : HT.sIx (x :: r).length (x :: r).length none = (x :: r).length := rfl
  unfold cutL
  rw [e1, e2, List.length_cons, Nat.add_sub_cancel]
  exact List.take_length
theorem max_le {h : List Int} {x : Int} {r : List Int} (e : h = x :: r) {m : Int} (hm : r.foldl max x ≤ m) : ∀ y ∈ h, y ≤ m := fun y hy => by
  obtain ⟨a, b⟩ := fold_max_ge r x
  rw [e] at hy
  rcases List.mem_cons.mp hy with z | z
  · rw [z]; omega
  · have := b y z; omega
theorem pure_law_some : PureR 5 0 sp_law_some w_law_some := by
  rintro ds A B a c - ⟨rfl, hA⟩
  have e31 : (10 : Int) ^ 31 = 10000000000000000000000000000000 := by decide
  have e30 : (10 : Int) ^ (30 : Int).toNat = 1000000000000000000000000000000 := by decide
  have e9 : (10 : Int) ^ (9 : Int).toNat = 1000000000 := by decide
  have p30 : CPow 10 30 := ⟨by decide, by decide, by decide⟩
  have p9 : CPow 10 9 := ⟨by decide, by decide, by decide⟩
  have bv := big_v
  simp only [w_law_some, startS, List.replicate_succ, List.replicate_zero, List.map_nil, List.nil_append]
  refine seq_cut (fun S => ∃ h, OkH h ∧ S = [.rng a c, .im (eH h), .un, .un, .un, .un]) (fun Nx hN => ?_) ?_
  · simp only [w_law_some_1, bl?, g2, gAdd, gDiv, gEq, gGe, gGt, gI, gIn, gInt, gIs, gIsNot, gLe, gLen, gList, gLt, gMM, gMod, gMul, gMulS, gNe, gNotIn, gPow, gSorted, gSub, gIadd, gSum, gTuple, puts, sV, sVs, slotM, wAnd, wApp, wAsg, wAug, wAugI, wB, wC, wCall, wCallR, wChain, wCons, wDraw, wDrop, wEnL, wEnT, wExt, wFn, wFnO, wFor, wGCons, wGNil, wGT, wIL, wIT, wIdx, wIf, wIfS, wIsi, wIx, wLc, wLst, wMNil, wMO, wMV, wMix, wN, wNeg, wNil, wNot, wNotT, wO, wOp, wOr, wOwn, wPar, wR1, wR2, wRaise, wRaiseF, wRet, wSeq, wSet, wSetI, wSkip, wTAnd, wTNot, wTOr, wTru, wTry, wTryF, wTup, wV, wYes, wSplit, wJoin, wRstrip, wFmt, wJNil, wJCons, wJs, gStr, gIntS, wIS, gSignNotIn, wSl, wSlt, wPn, wPs, gMulT, wGL, wTryAs, wXf, wXis, wCat, wCatV, wIxV, wDGet, wDIn, wDInT, wDGet2, wDPut, wDisp1, wOwnD, wMD, wForD, wLcD, wFz, wMv, wMinD, gListD, fzS, wDK, wDT, wFldO, wFldS, wMeth, wProp, wLenO, wCallO, wMake, wNewOb, wNewObL, wMethC, gLenD, wDGetV, wPopS, wUpd, wLV, wLI, wForIt, wSortSet, wCallIx, gSortedT, wTabIx, wTree, wForChg, messSlot, wSortLam, wAsgO, startS, List.length_cons, List.length_nil, List.map_cons, List.map_nil, List.getElem?_cons_zero, List.getElem?_cons_succ, List.set_cons_zero, List.set_cons_succ, List.cons_append, List.nil_append, List.append_nil, List.replicate_succ, List.replicate_zero, Nat.reduceAdd, Nat.reduceSub, ↓reduceIte, Bool.false_eq_true, reduceCtorEq, true_and, and_true, true_or, or_true, false_or, or_false, Bool.not_true, Bool.not_false, Bool.true_and, Bool.false_and, Bool.and_true, decide_eq_true_eq, Bool.not_eq_eq_eq_not, exists_eq_left, exists_eq_left', Option.some.injEq]
    exact ⟨a, c, rfl, rfl, 2, 6, rfl, by decide, by decide, by decide, fun h oh l2 l6 => hN _ ⟨h, oh, rfl⟩⟩
  rintro S ⟨h, oh, rfl⟩
  have R := oh.okR
  obtain ⟨x, r, eh⟩ : ∃ x r, h = x :: r := by
    cases h with
    | nil => have := R.l2; simp at this
    | cons x r => exact ⟨x, r, rfl⟩
  refine seq_cut (fun S => S = [.rng a c, .im (eH h), .un, .un, .un, .un]) (fun Nx hN => ?_) ?_
  · simp only [w_law_some_2, bl?, g2, gAdd, gDiv, gEq, gGe, gGt, gI, gIn, gInt, gIs, gIsNot, gLe, gLen, gList, gLt, gMM, gMod, gMul, gMulS, gNe, gNotIn, gPow, gSorted, gSub, gIadd, gSum, gTuple, puts, sV, sVs, slotM, wAnd, wApp, wAsg, wAug, wAugI, wB, wC, wCall, wCallR, wChain, wCons, wDraw, wDrop, wEnL, wEnT, wExt, wFn, wFnO, wFor, wGCons, wGNil, wGT, wIL, wIT, wIdx, wIf, wIfS, wIsi, wIx, wLc, wLst, wMNil, wMO, wMV, wMix, wN, wNeg, wNil, wNot, wNotT, wO, wOp, wOr, wOwn, wPar, wR1, wR2, wRaise, wRaiseF, wRet, wSeq, wSet, wSetI, wSkip, wTAnd, wTNot, wTOr, wTru, wTry, wTryF, wTup, wV, wYes, wSplit, wJoin, wRstrip, wFmt, wJNil, wJCons, wJs, gStr, gIntS, wIS, gSignNotIn, wSl, wSlt, wPn, wPs, gMulT, wGL, wTryAs, wXf, wXis, wCat, wCatV, wIxV, wDGet, wDIn, wDInT, wDGet2, wDPut, wDisp1, wOwnD, wMD, wForD, wLcD, wFz, wMv, wMinD, gListD, fzS, wDK, wDT, wFldO, wFldS, wMeth, wProp, wLenO, wCallO, wMake, wNewOb, wNewObL, wMethC, gLenD, wDGetV, wPopS, wUpd, wLV, wLI, wForIt, wSortSet, wCallIx, gSortedT, wTabIx, wTree, wForChg, messSlot, wSortLam, wAsgO, startS, List.length_cons, List.length_nil, List.map_cons, List.map_nil, List.getElem?_cons_zero, List.getElem?_cons_succ, List.set_cons_zero, List.set_cons_succ, List.cons_append, List.nil_append, List.append_nil, List.replicate_succ, List.replicate_zero, Nat.reduceAdd, Nat.reduceSub, ↓reduceIte, Bool.false_eq_true, reduceCtorEq, true_and, and_true, true_or, or_true, false_or, or_false, Bool.not_true, Bool.not_false, Bool.true_and, Bool.false_and, Bool.and_true, decide_eq_true_eq, Bool.not_eq_eq_eq_not, exists_eq_left, exists_eq_left', Option.some.injEq]
    refine ⟨a, c, rfl, rfl, by decide, by rw [e31]; decide, fun r r0 r1 => ?_⟩
    simp only [startS, List.length_cons, List.length_nil, List.map_cons, List.map_nil, List.getElem?_cons_zero, List.getElem?_cons_succ, List.set_cons_zero, List.set_cons_succ, List.cons_append, List.nil_append, List.append_nil, List.replicate_succ, List.replicate_zero, Nat.reduceAdd, Nat.reduceSub, ↓reduceIte, Bool.false_eq_true, reduceCtorEq, true_and, and_true, true_or, or_true, false_or, or_false, Bool.not_true, Bool.not_false, Bool.true_and, Bool.false_and, Bool.and_true, decide_eq_true_eq, Bool.not_eq_eq_eq_not, exists_eq_left, exists_eq_left', Option.some.injEq, shaped_int, eqv_int]
    by_cases c0 : r = 0
    · simp only [c0, decide_true, startS, List.length_cons, List.length_nil, List.map_cons, List.map_nil, List.getElem?_cons_zero, List.getElem?_cons_succ, List.set_cons_zero, List.set_cons_succ, List.cons_append, List.nil_append, List.append_nil, List.replicate_succ, List.replicate_zero, Nat.reduceAdd, Nat.reduceSub, ↓reduceIte, Bool.false_eq_true, reduceCtorEq, true_and, and_true, true_or, or_true, false_or, or_false, Bool.not_true, Bool.not_false, Bool.true_and, Bool.false_and, Bool.and_true, decide_eq_true_eq, Bool.not_eq_eq_eq_not, exists_eq_left, exists_eq_left', Option.some.injEq]
      exact hA h oh
    · simp only [c0, decide_false, startS, List.length_cons, List.length_nil, List.map_cons, List.map_nil, List.getElem?_cons_zero, List.getElem?_cons_succ, List.set_cons_zero, List.set_cons_succ, List.cons_append, List.nil_append, List.append_nil, List.replicate_succ, List.replicate_zero, Nat.reduceAdd, Nat.reduceSub, ↓reduceIte, Bool.false_eq_true, reduceCtorEq, true_and, and_true, true_or, or_true, false_or, or_false, Bool.not_true, Bool.not_false, Bool.true_and, Bool.false_and, Bool.and_true, decide_eq_true_eq, Bool.not_eq_eq_eq_not, exists_eq_left, exists_eq_left', Option.some.injEq]
      exact hN _ rfl
  rintro S rfl
  refine seq_cut (fun S => S = [.rng a c, .im (eH h), .im (.int 1), .un, .un, .un]) (fun Nx hN => ?_) ?_
  · simp only [w_law_some_3, bl?, g2, gAdd, gDiv, gEq, gGe, gGt, gI, gIn, gInt, gIs, gIsNot, gLe, gLen, gList, gLt, gMM, gMod, gMul, gMulS, gNe, gNotIn, gPow, gSorted, gSub, gIadd, gSum, gTuple, puts, sV, sVs, slotM, wAnd, wApp, wAsg, wAug, wAugI, wB, wC, wCall, wCallR, wChain, wCons, wDraw, wDrop, wEnL, wEnT, wExt, wFn, wFnO, wFor, wGCons, wGNil, wGT, wIL, wIT, wIdx, wIf, wIfS, wIsi, wIx, wLc, wLst, wMNil, wMO, wMV, wMix, wN, wNeg, wNil, wNot, wNotT, wO, wOp, wOr, wOwn, wPar, wR1, wR2, wRaise, wRaiseF, wRet, wSeq, wSet, wSetI, wSkip, wTAnd, wTNot, wTOr, wTru, wTry, wTryF, wTup, wV, wYes, wSplit, wJoin, wRstrip, wFmt, wJNil, wJCons, wJs, gStr, gIntS, wIS, gSignNotIn, wSl, wSlt, wPn, wPs, gMulT, wGL, wTryAs, wXf, wXis, wCat, wCatV, wIxV, wDGet, wDIn, wDInT, wDGet2, wDPut, wDisp1, wOwnD, wMD, wForD, wLcD, wFz, wMv, wMinD, gListD, fzS, wDK, wDT, wFldO, wFldS, wMeth, wProp, wLenO, wCallO, wMake, wNewOb, wNewObL, wMethC, gLenD, wDGetV, wPopS, wUpd, wLV, wLI, wForIt, wSortSet, wCallIx, gSortedT, wTabIx, wTree, wForChg, messSlot, wSortLam, wAsgO, startS, List.length_cons, List.length_nil, List.map_cons, List.map_nil, List.getElem?_cons_zero, List.getElem?_cons_succ, List.set_cons_zero, List.set_cons_succ, List.cons_append, List.nil_append, List.append_nil, List.replicate_succ, List.replicate_zero, Nat.reduceAdd, Nat.reduceSub, ↓reduceIte, Bool.false_eq_true, reduceCtorEq, true_and, and_true, true_or, or_true, false_or, or_false, Bool.not_true, Bool.not_false, Bool.true_and, Bool.false_and, Bool.and_true, decide_eq_true_eq, Bool.not_eq_eq_eq_not, exists_eq_left, exists_eq_left', Option.some.injEq]
    exact hN _ rfl
  rintro S rfl
  refine seq_cut (fun S => ∃ W : Int, h.sum ≤ W ∧ W < 2 * h.sum + 1 ∧ S = [.rng a c, .im (eH h), .im (.int W), .un, .un, .un]) (fun Nx hN => ?_) ?_
  · simp only [w_law_some_4]
    have s1 := R.s1
    have s6 := R.s6
    refine ⟨h.sum.toNat + 1, wh_ok (fun (W : Int) S => 1 ≤ W ∧ W < 2 * h.sum + 1 ∧ S = [.rng a c, .im (eH h), .im (.int W), .un, .un, .un]) (fun W => (h.sum - W).toNat) ?_ _ (1 : Int) _ (by omega) ⟨by decide, by omega, rfl⟩⟩
    rintro W S ⟨w1, w2, rfl⟩ Nx2 hN2
    simp only [bl?, g2, gAdd, gDiv, gEq, gGe, gGt, gI, gIn, gInt, gIs, gIsNot, gLe, gLen, gList, gLt, gMM, gMod, gMul, gMulS, gNe, gNotIn, gPow, gSorted, gSub, gIadd, gSum, gTuple, puts, sV, sVs, slotM, wAnd, wApp, wAsg, wAug, wAugI, wB, wC, wCall, wCallR, wChain, wCons, wDraw, wDrop, wEnL, wEnT, wExt, wFn, wFnO, wFor, wGCons, wGNil, wGT, wIL, wIT, wIdx, wIf, wIfS, wIsi, wIx, wLc, wLst, wMNil, wMO, wMV, wMix, wN, wNeg, wNil, wNot, wNotT, wO, wOp, wOr, wOwn, wPar, wR1, wR2, wRaise, wRaiseF, wRet, wSeq, wSet, wSetI, wSkip, wTAnd, wTNot, wTOr, wTru, wTry, wTryF, wTup, wV, wYes, wSplit, wJoin, wRstrip, wFmt, wJNil, wJCons, wJs, gStr, gIntS, wIS, gSignNotIn, wSl, wSlt, wPn, wPs, gMulT, wGL, wTryAs, wXf, wXis, wCat, wCatV, wIxV, wDGet, wDIn, wDInT, wDGet2, wDPut, wDisp1, wOwnD, wMD, wForD, wLcD, wFz, wMv, wMinD, gListD, fzS, wDK, wDT, wFldO, wFldS, wMeth, wProp, wLenO, wCallO, wMake, wNewOb, wNewObL, wMethC, gLenD, wDGetV, wPopS, wUpd, wLV, wLI, wForIt, wSortSet, wCallIx, gSortedT, wTabIx, wTree, wForChg, messSlot, wSortLam, wAsgO, startS, List.length_cons, List.length_nil, List.map_cons, List.map_nil, List.getElem?_cons_zero, List.getElem?_cons_succ, List.set_cons_zero, List.set_cons_succ, List.cons_append, List.nil_append, List.append_nil, List.replicate_succ, List.replicate_zero, Nat.reduceAdd, Nat.reduceSub, ↓reduceIte, Bool.false_eq_true, reduceCtorEq, true_and, and_true, true_or, or_true, false_or, or_false, Bool.not_true, Bool.not_false, Bool.true_and, Bool.false_and, Bool.and_true, decide_eq_true_eq, Bool.not_eq_eq_eq_not, exists_eq_left, exists_eq_left', Option.some.injEq, eH]
    refine ⟨h, ints?_map h, ?_⟩
    by_cases c1 : W < h.sum
    · simp only [c1, decide_true, startS, List.length_cons, List.length_nil, List.map_cons, List.map_nil, List.getElem?_cons_zero, List.getElem?_cons_succ, List.set_cons_zero, List.set_cons_succ, List.cons_append, List.nil_append, List.append_nil, List.replicate_succ, List.replicate_zero, Nat.reduceAdd, Nat.reduceSub, ↓reduceIte, Bool.false_eq_true, reduceCtorEq, true_and, and_true, true_or, or_true, false_or, or_false, Bool.not_true, Bool.not_false, Bool.true_and, Bool.false_and, Bool.and_true, decide_eq_true_eq, Bool.not_eq_eq_eq_not, exists_eq_left, exists_eq_left', Option.some.injEq]
      exact ⟨mulZ (by omega) (by omega) (by decide) (by decide), hN2 (W * 2) _ (by omega) ⟨by omega, by omega, rfl⟩⟩
    · simp only [c1, decide_false, startS, List.length_cons, List.length_nil, List.map_cons, List.map_nil, List.getElem?_cons_zero, List.getElem?_cons_succ, List.set_cons_zero, List.set_cons_succ, List.cons_append, List.nil_append, List.append_nil, List.replicate_succ, List.replicate_zero, Nat.reduceAdd, Nat.reduceSub, ↓reduceIte, Bool.false_eq_true, reduceCtorEq, true_and, and_true, true_or, or_true, false_or, or_false, Bool.not_true, Bool.not_false, Bool.true_and, Bool.false_and, Bool.and_true, decide_eq_true_eq, Bool.not_eq_eq_eq_not, exists_eq_left, exists_eq_left', Option.some.injEq]
      exact hN _ ⟨W, by omega, w2, rfl⟩
  rintro S ⟨W, w1, w2, rfl⟩
  have a0 : atD (List.map PyData.int h) 0 = some (.int x) := by
    have q := at_gt (h := h) (i := 0) (by have := R.l2; omega)
    rw [eh] at q ⊢
    exact q
  have em : ∃ n ns, ints? (List.map PyData.int h) = some (n :: ns) ∧ n = x ∧ ns = r := ⟨x, r, by rw [← eh]; exact ints?_map h, rfl, rfl⟩
  refine seq_cut (fun S => x + W - h.sum ≤ big ∧ S = [.rng a c, .im (eH h), .im (.int W), .un, .un, .un]) (fun Nx hN => ?_) ?_
  · simp only [w_law_some_5, bl?, g2, gAdd, gDiv, gEq, gGe, gGt, gI, gIn, gInt, gIs, gIsNot, gLe, gLen, gList, gLt, gMM, gMod, gMul, gMulS, gNe, gNotIn, gPow, gSorted, gSub, gIadd, gSum, gTuple, puts, sV, sVs, slotM, wAnd, wApp, wAsg, wAug, wAugI, wB, wC, wCall, wCallR, wChain, wCons, wDraw, wDrop, wEnL, wEnT, wExt, wFn, wFnO, wFor, wGCons, wGNil, wGT, wIL, wIT, wIdx, wIf, wIfS, wIsi, wIx, wLc, wLst, wMNil, wMO, wMV, wMix, wN, wNeg, wNil, wNot, wNotT, wO, wOp, wOr, wOwn, wPar, wR1, wR2, wRaise, wRaiseF, wRet, wSeq, wSet, wSetI, wSkip, wTAnd, wTNot, wTOr, wTru, wTry, wTryF, wTup, wV, wYes, wSplit, wJoin, wRstrip, wFmt, wJNil, wJCons, wJs, gStr, gIntS, wIS, gSignNotIn, wSl, wSlt, wPn, wPs, gMulT, wGL, wTryAs, wXf, wXis, wCat, wCatV, wIxV, wDGet, wDIn, wDInT, wDGet2, wDPut, wDisp1, wOwnD, wMD, wForD, wLcD, wFz, wMv, wMinD, gListD, fzS, wDK, wDT, wFldO, wFldS, wMeth, wProp, wLenO, wCallO, wMake, wNewOb, wNewObL, wMethC, gLenD, wDGetV, wPopS, wUpd, wLV, wLI, wForIt, wSortSet, wCallIx, gSortedT, wTabIx, wTree, wForChg, messSlot, wSortLam, wAsgO, startS, List.length_cons, List.length_nil, List.map_cons, List.map_nil, List.getElem?_cons_zero, List.getElem?_cons_succ, List.set_cons_zero, List.set_cons_succ, List.cons_append, List.nil_append, List.append_nil, List.replicate_succ, List.replicate_zero, Nat.reduceAdd, Nat.reduceSub, ↓reduceIte, Bool.false_eq_true, reduceCtorEq, true_and, and_true, true_or, or_true, false_or, or_false, Bool.not_true, Bool.not_false, Bool.true_and, Bool.false_and, Bool.and_true, decide_eq_true_eq, Bool.not_eq_eq_eq_not, exists_eq_left, exists_eq_left', Option.some.injEq, eH, a0]
    refine ⟨h, ints?_map h, p30, ?_⟩
    rw [e30]
    by_cases c1 : 1000000000000000000000000000000 < x + W - h.sum
    · simp only [c1, decide_true, startS, List.length_cons, List.length_nil, List.map_cons, List.map_nil, List.getElem?_cons_zero, List.getElem?_cons_succ, List.set_cons_zero, List.set_cons_succ, List.cons_append, List.nil_append, List.append_nil, List.replicate_succ, List.replicate_zero, Nat.reduceAdd, Nat.reduceSub, ↓reduceIte, Bool.false_eq_true, reduceCtorEq, true_and, and_true, true_or, or_true, false_or, or_false, Bool.not_true, Bool.not_false, Bool.true_and, Bool.false_and, Bool.and_true, decide_eq_true_eq, Bool.not_eq_eq_eq_not, exists_eq_left, exists_eq_left', Option.some.injEq]
      exact hA h oh
    · simp only [c1, decide_false, startS, List.length_cons, List.length_nil, List.map_cons, List.map_nil, List.getElem?_cons_zero, List.getElem?_cons_succ, List.set_cons_zero, List.set_cons_succ, List.cons_append, List.nil_append, List.append_nil, List.replicate_succ, List.replicate_zero, Nat.reduceAdd, Nat.reduceSub, ↓reduceIte, Bool.false_eq_true, reduceCtorEq, true_and, and_true, true_or, or_true, false_or, or_false, Bool.not_true, Bool.not_false, Bool.true_and, Bool.false_and, Bool.and_true, decide_eq_true_eq, Bool.not_eq_eq_eq_not, exists_eq_left, exists_eq_left', Option.some.injEq]
      exact hN _ ⟨by omega, rfl⟩
  rintro S ⟨w3, rfl⟩
  refine seq_cut (fun S => ∃ q : Int, (q = 1 ∨ ((∀ y ∈ h, y ≤ 1000000000) ∧ 1 ≤ q ∧ q ≤ 10)) ∧ S = [.rng a c, .im (eH h), .im (.int W), .im (.int q), .un, .un]) (fun Nx hN => ?_) ?_
  · simp only [w_law_some_6, bl?, g2, gAdd, gDiv, gEq, gGe, gGt, gI, gIn, gInt, gIs, gIsNot, gLe, gLen, gList, gLt, gMM, gMod, gMul, gMulS, gNe, gNotIn, gPow, gSorted, gSub, gIadd, gSum, gTuple, puts, sV, sVs, slotM, wAnd, wApp, wAsg, wAug, wAugI, wB, wC, wCall, wCallR, wChain, wCons, wDraw, wDrop, wEnL, wEnT, wExt, wFn, wFnO, wFor, wGCons, wGNil, wGT, wIL, wIT, wIdx, wIf, wIfS, wIsi, wIx, wLc, wLst, wMNil, wMO, wMV, wMix, wN, wNeg, wNil, wNot, wNotT, wO, wOp, wOr, wOwn, wPar, wR1, wR2, wRaise, wRaiseF, wRet, wSeq, wSet, wSetI, wSkip, wTAnd, wTNot, wTOr, wTru, wTry, wTryF, wTup, wV, wYes, wSplit, wJoin, wRstrip, wFmt, wJNil, wJCons, wJs, gStr, gIntS, wIS, gSignNotIn, wSl, wSlt, wPn, wPs, gMulT, wGL, wTryAs, wXf, wXis, wCat, wCatV, wIxV, wDGet, wDIn, wDInT, wDGet2, wDPut, wDisp1, wOwnD, wMD, wForD, wLcD, wFz, wMv, wMinD, gListD, fzS, wDK, wDT, wFldO, wFldS, wMeth, wProp, wLenO, wCallO, wMake, wNewOb, wNewObL, wMethC, gLenD, wDGetV, wPopS, wUpd, wLV, wLI, wForIt, wSortSet, wCallIx, gSortedT, wTabIx, wTree, wForChg, messSlot, wSortLam, wAsgO, startS, List.length_cons, List.length_nil, List.map_cons, List.map_nil, List.getElem?_cons_zero, List.getElem?_cons_succ, List.set_cons_zero, List.set_cons_succ, List.cons_append, List.nil_append, List.append_nil, List.replicate_succ, List.replicate_zero, Nat.reduceAdd, Nat.reduceSub, ↓reduceIte, Bool.false_eq_true, reduceCtorEq, true_and, and_true, true_or, or_true, false_or, or_false, Bool.not_true, Bool.not_false, Bool.true_and, Bool.false_and, Bool.and_true, decide_eq_true_eq, Bool.not_eq_eq_eq_not, exists_eq_left, exists_eq_left', Option.some.injEq, eH]
    obtain ⟨n, ns, em, rfl, rfl⟩ := em
    refine ⟨n, ns, em, p9, ?_⟩
    rw [e9]
    by_cases c1 : 1000000000 < ns.foldl max n
    · simp only [c1, decide_true, startS, List.length_cons, List.length_nil, List.map_cons, List.map_nil, List.getElem?_cons_zero, List.getElem?_cons_succ, List.set_cons_zero, List.set_cons_succ, List.cons_append, List.nil_append, List.append_nil, List.replicate_succ, List.replicate_zero, Nat.reduceAdd, Nat.reduceSub, ↓reduceIte, Bool.false_eq_true, reduceCtorEq, true_and, and_true, true_or, or_true, false_or, or_false, Bool.not_true, Bool.not_false, Bool.true_and, Bool.false_and, Bool.and_true, decide_eq_true_eq, Bool.not_eq_eq_eq_not, exists_eq_left, exists_eq_left', Option.some.injEq]
      exact hN _ ⟨1, .inl rfl, rfl⟩
    · simp only [c1, decide_false, startS, List.length_cons, List.length_nil, List.map_cons, List.map_nil, List.getElem?_cons_zero, List.getElem?_cons_succ, List.set_cons_zero, List.set_cons_succ, List.cons_append, List.nil_append, List.append_nil, List.replicate_succ, List.replicate_zero, Nat.reduceAdd, Nat.reduceSub, ↓reduceIte, Bool.false_eq_true, reduceCtorEq, true_and, and_true, true_or, or_true, false_or, or_false, Bool.not_true, Bool.not_false, Bool.true_and, Bool.false_and, Bool.and_true, decide_eq_true_eq, Bool.not_eq_eq_eq_not, exists_eq_left, exists_eq_left', Option.some.injEq]
      refine ⟨by decide, a, c, rfl, rfl, by decide, by rw [e31]; decide, fun r r0 r1 => ?_⟩
      obtain ⟨z, ez, z1, z2⟩ := three_at r0 r1
      simp only [ez, startS, List.length_cons, List.length_nil, List.map_cons, List.map_nil, List.getElem?_cons_zero, List.getElem?_cons_succ, List.set_cons_zero, List.set_cons_succ, List.cons_append, List.nil_append, List.append_nil, List.replicate_succ, List.replicate_zero, Nat.reduceAdd, Nat.reduceSub, ↓reduceIte, Bool.false_eq_true, reduceCtorEq, true_and, and_true, true_or, or_true, false_or, or_false, Bool.not_true, Bool.not_false, Bool.true_and, Bool.false_and, Bool.and_true, decide_eq_true_eq, Bool.not_eq_eq_eq_not, exists_eq_left, exists_eq_left', Option.some.injEq, flat_int]
      exact hN _ ⟨z, .inr ⟨max_le eh (by omega), z1, z2⟩, rfl⟩
  rintro S ⟨q, hq, rfl⟩
  refine seq_cut (fun S => S = [.rng a c, .im (eH h), .im (.int W), .im (.int q), .im (eH ((x + W - h.sum) :: r)), .un]) (fun Nx hN => ?_) ?_
  · have ec : cutL (List.map PyData.int h) (some 1) none = List.map PyData.int r := by rw [eh]; exact cut1 _ _
    simp only [w_law_some_7, bl?, g2, gAdd, gDiv, gEq, gGe, gGt, gI, gIn, gInt, gIs, gIsNot, gLe, gLen, gList, gLt, gMM, gMod, gMul, gMulS, gNe, gNotIn, gPow, gSorted, gSub, gIadd, gSum, gTuple, puts, sV, sVs, slotM, wAnd, wApp, wAsg, wAug, wAugI, wB, wC, wCall, wCallR, wChain, wCons, wDraw, wDrop, wEnL, wEnT, wExt, wFn, wFnO, wFor, wGCons, wGNil, wGT, wIL, wIT, wIdx, wIf, wIfS, wIsi, wIx, wLc, wLst, wMNil, wMO, wMV, wMix, wN, wNeg, wNil, wNot, wNotT, wO, wOp, wOr, wOwn, wPar, wR1, wR2, wRaise, wRaiseF, wRet, wSeq, wSet, wSetI, wSkip, wTAnd, wTNot, wTOr, wTru, wTry, wTryF, wTup, wV, wYes, wSplit, wJoin, wRstrip, wFmt, wJNil, wJCons, wJs, gStr, gIntS, wIS, gSignNotIn, wSl, wSlt, wPn, wPs, gMulT, wGL, wTryAs, wXf, wXis, wCat, wCatV, wIxV, wDGet, wDIn, wDInT, wDGet2, wDPut, wDisp1, wOwnD, wMD, wForD, wLcD, wFz, wMv, wMinD, gListD, fzS, wDK, wDT, wFldO, wFldS, wMeth, wProp, wLenO, wCallO, wMake, wNewOb, wNewObL, wMethC, gLenD, wDGetV, wPopS, wUpd, wLV, wLI, wForIt, wSortSet, wCallIx, gSortedT, wTabIx, wTree, wForChg, messSlot, wSortLam, wAsgO, startS, List.length_cons, List.length_nil, List.map_cons, List.map_nil, List.getElem?_cons_zero, List.getElem?_cons_succ, List.set_cons_zero, List.set_cons_succ, List.cons_append, List.nil_append, List.append_nil, List.replicate_succ, List.replicate_zero, Nat.reduceAdd, Nat.reduceSub, ↓reduceIte, Bool.false_eq_true, reduceCtorEq, true_and, and_true, true_or, or_true, false_or, or_false, Bool.not_true, Bool.not_false, Bool.true_and, Bool.false_and, Bool.and_true, decide_eq_true_eq, Bool.not_eq_eq_eq_not, exists_eq_left, exists_eq_left', Option.some.injEq, eH, a0, ec]
    refine ⟨h, ints?_map h, by decide, ?_⟩
    have l6 := R.l6
    rw [eh, List.length_cons] at l6
    refine ⟨by rw [List.length_map, sizeLine_eq]; show 1 + _ ≤ _; omega, ?_⟩
    exact hN _ rfl
  rintro S rfl
  simp only [w_law_some_8, bl?, g2, gAdd, gDiv, gEq, gGe, gGt, gI, gIn, gInt, gIs, gIsNot, gLe, gLen, gList, gLt, gMM, gMod, gMul, gMulS, gNe, gNotIn, gPow, gSorted, gSub, gIadd, gSum, gTuple, puts, sV, sVs, slotM, wAnd, wApp, wAsg, wAug, wAugI, wB, wC, wCall, wCallR, wChain, wCons, wDraw, wDrop, wEnL, wEnT, wExt, wFn, wFnO, wFor, wGCons, wGNil, wGT, wIL, wIT, wIdx, wIf, wIfS, wIsi, wIx, wLc, wLst, wMNil, wMO, wMV, wMix, wN, wNeg, wNil, wNot, wNotT, wO, wOp, wOr, wOwn, wPar, wR1, wR2, wRaise, wRaiseF, wRet, wSeq, wSet, wSetI, wSkip, wTAnd, wTNot, wTOr, wTru, wTry, wTryF, wTup, wV, wYes, wSplit, wJoin, wRstrip, wFmt, wJNil, wJCons, wJs, gStr, gIntS, wIS, gSignNotIn, wSl, wSlt, wPn, wPs, gMulT, wGL, wTryAs, wXf, wXis, wCat, wCatV, wIxV, wDGet, wDIn, wDInT, wDGet2, wDPut, wDisp1, wOwnD, wMD, wForD, wLcD, wFz, wMv, wMinD, gListD, fzS, wDK, wDT, wFldO, wFldS, wMeth, wProp, wLenO, wCallO, wMake, wNewOb, wNewObL, wMethC, gLenD, wDGetV, wPopS, wUpd, wLV, wLI, wForIt, wSortSet, wCallIx, gSortedT, wTabIx, wTree, wForChg, messSlot, wSortLam, wAsgO, startS, List.length_cons, List.length_nil, List.map_cons, List.map_nil, List.getElem?_cons_zero, List.getElem?_cons_succ, List.set_cons_zero, List.set_cons_succ, List.cons_append, List.nil_append, List.append_nil, List.replicate_succ, List.replicate_zero, Nat.reduceAdd, Nat.reduceSub, ↓reduceIte, Bool.false_eq_true, reduceCtorEq, true_and, and_true, true_or, or_true, false_or, or_false, Bool.not_true, Bool.not_false, Bool.true_and, Bool.false_and, Bool.and_true, decide_eq_true_eq, Bool.not_eq_eq_eq_not, exists_eq_left, exists_eq_left', Option.some.injEq, eH, List.all_cons, List.all_nil, notRng, isMut]
  have x0 := (oh.rg x (by rw [eh]; exact List.mem_cons_self))
  have hr : ∀ y ∈ r, 0 ≤ y ∧ y ≤ big := fun y hy => oh.rg y (by rw [eh]; exact List.mem_cons_of_mem _ hy)
  have l2 := R.l2
  have l6 := R.l6
  rw [eh, List.length_cons] at l2 l6
  have es : h.sum = x + r.sum := by rw [eh]; rfl
  have q10 : 1 ≤ q ∧ q ≤ 10 := by
    rcases hq with z | z
    · omega
    · exact z.2
  have qb : ∀ y ∈ (x + W - h.sum) :: r, 0 ≤ y ∧ y ≤ big ∧ 0 ≤ q * y ∧ q * y ≤ big := fun y hy => by
    have y0 : 0 ≤ y ∧ y ≤ big := by
      rcases List.mem_cons.mp hy with z | z
      · rw [z]; omega
      · exact hr y z
    refine ⟨y0.1, y0.2, Int.mul_nonneg (by omega) y0.1, ?_⟩
    rcases hq with z | ⟨z, z1, z2⟩
    · rw [z, Int.one_mul]; exact y0.2
    · have yb : y ≤ 10000000000 := by
        have sl := sum_le_len h z
        have : (h.length : Int) * 1000000000 ≤ 6 * 1000000000 := Int.mul_le_mul_of_nonneg_right (by have := R.l6; omega) (by decide)
        have xz := z x (by rw [eh]; exact List.mem_cons_self)
        rcases List.mem_cons.mp hy with k | k
        · rw [k]; omega
        · have := z y (by rw [eh]; exact List.mem_cons_of_mem _ k); omega
      have := Int.mul_le_mul z2 yb y0.1 (by decide)
      omega
  refine lc_ok PyData.int (fun _ => true) (fun y => PyData.int (q * y)) ((x + W - h.sum) :: r) [] True (fun y hy Yes No hyes hno => ?_) (by show 0 + (r.length + 1) ≤ _; omega) trivial fun c' hc' => ?_
  · simp only [bl?, g2, gAdd, gDiv, gEq, gGe, gGt, gI, gIn, gInt, gIs, gIsNot, gLe, gLen, gList, gLt, gMM, gMod, gMul, gMulS, gNe, gNotIn, gPow, gSorted, gSub, gIadd, gSum, gTuple, puts, sV, sVs, slotM, wAnd, wApp, wAsg, wAug, wAugI, wB, wC, wCall, wCallR, wChain, wCons, wDraw, wDrop, wEnL, wEnT, wExt, wFn, wFnO, wFor, wGCons, wGNil, wGT, wIL, wIT, wIdx, wIf, wIfS, wIsi, wIx, wLc, wLst, wMNil, wMO, wMV, wMix, wN, wNeg, wNil, wNot, wNotT, wO, wOp, wOr, wOwn, wPar, wR1, wR2, wRaise, wRaiseF, wRet, wSeq, wSet, wSetI, wSkip, wTAnd, wTNot, wTOr, wTru, wTry, wTryF, wTup, wV, wYes, wSplit, wJoin, wRstrip, wFmt, wJNil, wJCons, wJs, gStr, gIntS, wIS, gSignNotIn, wSl, wSlt, wPn, wPs, gMulT, wGL, wTryAs, wXf, wXis, wCat, wCatV, wIxV, wDGet, wDIn, wDInT, wDGet2, wDPut, wDisp1, wOwnD, wMD, wForD, wLcD, wFz, wMv, wMinD, gListD, fzS, wDK, wDT, wFldO, wFldS, wMeth, wProp, wLenO, wCallO, wMake, wNewOb, wNewObL, wMethC, gLenD, wDGetV, wPopS, wUpd, wLV, wLI, wForIt, wSortSet, wCallIx, gSortedT, wTabIx, wTree, wForChg, messSlot, wSortLam, wAsgO, startS, List.length_cons, List.length_nil, List.map_cons, List.map_nil, List.getElem?_cons_zero, List.getElem?_cons_succ, List.set_cons_zero, List.set_cons_succ, List.cons_append, List.nil_append, List.append_nil, List.replicate_succ, List.replicate_zero, Nat.reduceAdd, Nat.reduceSub, ↓reduceIte, Bool.false_eq_true, reduceCtorEq, true_and, and_true, true_or, or_true, false_or, or_false, Bool.not_true, Bool.not_false, Bool.true_and, Bool.false_and, Bool.and_true, decide_eq_true_eq, Bool.not_eq_eq_eq_not, exists_eq_left, exists_eq_left', Option.some.injEq, wipeS, flat_int]
    obtain ⟨y0, y1, y2, y3⟩ := qb y hy
    exact ⟨mulZ (by omega) (by omega) y0 (by omega), hyes rfl⟩
  · have e : ([] ++ List.map (fun y => PyData.int (q * y)) (List.filter (fun _ => true) ((x + W - h.sum) :: r))) = List.map PyData.int (((x + W - h.sum) :: r).map (fun y => q * y)) := by
      rw [List.nil_append, List.map_map]
      congr 1
      simp
    rw [e]
    have fin : OkH (((x + W - h.sum) :: r).map (fun y => q * y)) := by
      refine ⟨by rw [List.length_map, List.length_cons]; omega, by rw [List.length_map, List.length_cons]; omega, fun z hz => ?_, ?_⟩
      · obtain ⟨y, hy, rfl⟩ := List.mem_map.mp hz
        obtain ⟨y0, y1, y2, y3⟩ := qb y hy
        exact ⟨y2, y3⟩
      · have : ∃ y ∈ (x + W - h.sum) :: r, y ≠ 0 := by
          by_cases c0 : x + W - h.sum = 0
          · obtain ⟨y, hy, ny⟩ := oh.nz
            rw [eh] at hy
            rcases List.mem_cons.mp hy with z | z
            · omega
            · exact ⟨y, List.mem_cons_of_mem _ z, ny⟩
          · exact ⟨_, List.mem_cons_self, c0⟩
        obtain ⟨y, hy, ny⟩ := this
        exact ⟨q * y, List.mem_map.mpr ⟨y, hy, rfl⟩, fun z => by
          rcases Int.mul_eq_zero.mp z with z | z
          · omega
          · exact ny z⟩
    exact hA _ fin
def w_law_1 : WS :=
    (wSet 2 (wCallR 1 sp_law_some wNil))
def w_law_2 : WS :=
    (wPar 3 4 (wCons (wC (.int 0)) (wCons (wFn gSum (wCons (wV 2) wNil)) wNil)))
def w_law_3 : WS :=
    (wWh (wB (wOp gGt (wV 4) (wC (.int 0)))) (wPar 3 4 (wCons (wOp gAdd (wV 3) (wC (.int 1))) (wCons (wOp gDiv (wV 4) (wC (.int 2))) wNil))))
def w_law_4 : WS :=
    (wSet 5 (wOp gMul (wV 3) (wV 3)))
def w_law_5 : WS :=
    (wIfS (wB (wOp gNe (wCall sp_odd_part (wCons (wV 2) wNil)) (wCall sp_law_odd (wCons (wV 2) wNil)))) (wRet (wC (.bool false))) wSkip)
def w_law_6_1 : WS :=
    (wSet 6 (wCall sp_empty_plan (wCons (wV 2) wNil)))
def w_law_6_2 : WS :=
    (wSet 7 (wCall sp_law_gone (wCons (wV 2) (wCons (wV 6) wNil))))
def w_law_6_3 : WS :=
    (wIfS (wTOr (wB (wOp gIs (wV 7) (wC .none))) (wTOr (wB (wOp gGt (wFn (gMM min) (wCons (wV 7) wNil)) (wC (.int 0)))) (wB (wOp gGt (wFn gLen (wCons (wV 6) wNil)) (wV 5))))) (wRet (wC (.bool false))) wSkip)
def w_law_6 : WS :=
    (wIfS (wB (wOp gGt (wFn gLen (wCons (wV 2) wNil)) (wC (.int 2)))) (wSeq w_law_6_1
    (wSeq w_law_6_2
    w_law_6_3)) wSkip)
def w_law_7 : WS :=
    (wSet 6 (wCall sp_pair_plan (wCons (wV 2) wNil)))
def w_law_8 : WS :=
    (wSet 7 (wCall sp_law_gone (wCons (wV 2) (wCons (wV 6) wNil))))
def w_law_9 : WS :=
    (wIfS (wTOr (wB (wOp gIs (wV 7) (wC .none))) (wTOr (wB (wOp gGt (wCall sp_law_full (wCons (wV 7) wNil)) (wC (.int 2)))) (wB (wOp gGt (wFn gLen (wCons (wV 6) wNil)) (wOp gMul (wV 5) (wFn gLen (wCons (wV 2) wNil))))))) (wRet (wC (.bool false))) wSkip)
def w_law_10 : WS :=
    (wSet 6 (wCall sp_one_plan (wCons (wV 2) wNil)))
def w_law_11 : WS :=
    (wIfS (wB (wOp gGt (wCall sp_law_odd (wCons (wV 2) wNil)) (wC (.int 1)))) (wRet (wOp gIs (wV 6) (wC .none))) wSkip)
def w_law_12 : WS :=
    (wSet 7 (wCall sp_law_gone (wCons (wV 2) (wCons (wV 6) wNil))))
def w_law_13 : WS :=
    (wRet (wAnd (wOp gIsNot (wV 7) (wC .none)) (wAnd (wOp gEq (wCall sp_law_full (wCons (wV 7) wNil)) (wC (.int 1))) (wOp gLe (wFn gLen (wCons (wV 6) wNil)) (wOp gMul (wV 5) (wFn gLen (wCons (wV 2) wNil)))))))
def w_law : WS :=
    (wSeq w_law_1
    (wSeq w_law_2
    (wSeq w_law_3
    (wSeq w_law_4
    (wSeq w_law_5
    (wSeq w_law_6
    (wSeq w_law_7
    (wSeq w_law_8
    (wSeq w_law_9
    (wSeq w_law_10
    (wSeq w_law_11
    (wSeq w_law_12
    w_law_13))))))))))))
theorem fmin_le : ∀ (ns : List Int) (n : Int), ns.foldl min n ≤ n ∧ ∀ x ∈ ns, ns.foldl min n ≤ x
  | [], n => ⟨Int.le_refl _, fun x h => by cases h⟩
  | y :: r, n => by
    obtain ⟨h1, h2⟩ := fmin_le r (min n y)
    refine ⟨Int.le_trans h1 (Int.min_le_left n y), fun x h => ?_⟩
    rcases List.mem_cons.mp h with z | z
    · rw [z]; exact Int.le_trans h1 (Int.min_le_right n y)
    · exact h2 x z
theorem gone_use {h g : List Int} {p : List (Nat × Nat)} {A : PyData → Prop} {B : XC → Prop} (l6 : h.length ≤ 6) (r : runs h p g) (hA : A (eH g)) : sp_law_gone [eH h, eL p] A B := ⟨h, p, g, rfl, l6, r, hA⟩
theorem lfull_use {h : List Int} {A : PyData → Prop} {B : XC → Prop} (l6 : h.length ≤ 6) (hA : A (.int ((full h : Nat) : Int))) : sp_law_full [eH h] A B := ⟨h, rfl, l6, hA⟩
theorem oddl_use {h : List Int} {A : PyData → Prop} {B : XC → Prop} (oh : OkH h) (hA : ∀ l f, OddH h l f → A (.int l)) : sp_law_odd [eH h] A B := ⟨h, rfl, oh, hA⟩
theorem pure_law : ∀ a c, w_law ((List.replicate 8 Slot.un).set 1 (.rng a c)) ⟨fun _ => False, fun d _ _ => d = .bool true, fun _ => False, fun _ => False, fun _ _ => False⟩ := by
  intro a c
  have bv := big_v
  simp only [w_law, List.replicate_succ, List.replicate_zero, List.set_cons_succ, List.set_cons_zero]
  refine seq_cut (fun S => ∃ h, OkH h ∧ S = [.un, .rng a c, .im (eH h), .un, .un, .un, .un, .un]) (fun Nx hN => ?_) ?_
  · simp only [w_law_1, bl?, g2, gAdd, gDiv, gEq, gGe, gGt, gI, gIn, gInt, gIs, gIsNot, gLe, gLen, gList, gLt, gMM, gMod, gMul, gMulS, gNe, gNotIn, gPow, gSorted, gSub, gIadd, gSum, gTuple, puts, sV, sVs, slotM, wAnd, wApp, wAsg, wAug, wAugI, wB, wC, wCall, wCallR, wChain, wCons, wDraw, wDrop, wEnL, wEnT, wExt, wFn, wFnO, wFor, wGCons, wGNil, wGT, wIL, wIT, wIdx, wIf, wIfS, wIsi, wIx, wLc, wLst, wMNil, wMO, wMV, wMix, wN, wNeg, wNil, wNot, wNotT, wO, wOp, wOr, wOwn, wPar, wR1, wR2, wRaise, wRaiseF, wRet, wSeq, wSet, wSetI, wSkip, wTAnd, wTNot, wTOr, wTru, wTry, wTryF, wTup, wV, wYes, wSplit, wJoin, wRstrip, wFmt, wJNil, wJCons, wJs, gStr, gIntS, wIS, gSignNotIn, wSl, wSlt, wPn, wPs, gMulT, wGL, wTryAs, wXf, wXis, wCat, wCatV, wIxV, wDGet, wDIn, wDInT, wDGet2, wDPut, wDisp1, wOwnD, wMD, wForD, wLcD, wFz, wMv, wMinD, gListD, fzS, wDK, wDT, wFldO, wFldS, wMeth, wProp, wLenO, wCallO, wMake, wNewOb, wNewObL, wMethC, gLenD, wDGetV, wPopS, wUpd, wLV, wLI, wForIt, wSortSet, wCallIx, gSortedT, wTabIx, wTree, wForChg, messSlot, wSortLam, wAsgO, startS, List.length_cons, List.length_nil, List.map_cons, List.map_nil, List.getElem?_cons_zero, List.getElem?_cons_succ, List.set_cons_zero, List.set_cons_succ, List.cons_append, List.nil_append, List.append_nil, List.replicate_succ, List.replicate_zero, Nat.reduceAdd, Nat.reduceSub, ↓reduceIte, Bool.false_eq_true, reduceCtorEq, true_and, and_true, true_or, or_true, false_or, or_false, Bool.not_true, Bool.not_false, Bool.true_and, Bool.false_and, Bool.and_true, decide_eq_true_eq, Bool.not_eq_eq_eq_not, exists_eq_left, exists_eq_left', Option.some.injEq]
    exact ⟨a, c, rfl, rfl, rfl, fun h oh => hN _ ⟨h, oh, rfl⟩⟩
  rintro S ⟨h, oh, rfl⟩
  have R := oh.okR
  have h103 := s103 R
  have l6 := R.l6
  have es : h.sum = ((h.sum.toNat : Nat) : Int) := (cast_toNat (by have := R.s1; omega)).symm
  refine seq_cut (fun S => S = [.un, .rng a c, .im (eH h), .im (.int 0), .im (.int h.sum), .un, .un, .un]) (fun Nx hN => ?_) ?_
  · simp only [w_law_2, bl?, g2, gAdd, gDiv, gEq, gGe, gGt, gI, gIn, gInt, gIs, gIsNot, gLe, gLen, gList, gLt, gMM, gMod, gMul, gMulS, gNe, gNotIn, gPow, gSorted, gSub, gIadd, gSum, gTuple, puts, sV, sVs, slotM, wAnd, wApp, wAsg, wAug, wAugI, wB, wC, wCall, wCallR, wChain, wCons, wDraw, wDrop, wEnL, wEnT, wExt, wFn, wFnO, wFor, wGCons, wGNil, wGT, wIL, wIT, wIdx, wIf, wIfS, wIsi, wIx, wLc, wLst, wMNil, wMO, wMV, wMix, wN, wNeg, wNil, wNot, wNotT, wO, wOp, wOr, wOwn, wPar, wR1, wR2, wRaise, wRaiseF, wRet, wSeq, wSet, wSetI, wSkip, wTAnd, wTNot, wTOr, wTru, wTry, wTryF, wTup, wV, wYes, wSplit, wJoin, wRstrip, wFmt, wJNil, wJCons, wJs, gStr, gIntS, wIS, gSignNotIn, wSl, wSlt, wPn, wPs, gMulT, wGL, wTryAs, wXf, wXis, wCat, wCatV, wIxV, wDGet, wDIn, wDInT, wDGet2, wDPut, wDisp1, wOwnD, wMD, wForD, wLcD, wFz, wMv, wMinD, gListD, fzS, wDK, wDT, wFldO, wFldS, wMeth, wProp, wLenO, wCallO, wMake, wNewOb, wNewObL, wMethC, gLenD, wDGetV, wPopS, wUpd, wLV, wLI, wForIt, wSortSet, wCallIx, gSortedT, wTabIx, wTree, wForChg, messSlot, wSortLam, wAsgO, startS, List.length_cons, List.length_nil, List.map_cons, List.map_nil, List.getElem?_cons_zero, List.getElem?_cons_succ, List.set_cons_zero, List.set_cons_succ, List.cons_append, List.nil_append, List.append_nil, List.replicate_succ, List.replicate_zero, Nat.reduceAdd, Nat.reduceSub, ↓reduceIte, Bool.false_eq_true, reduceCtorEq, true_and, and_true, true_or, or_true, false_or, or_false, Bool.not_true, Bool.not_false, Bool.true_and, Bool.false_and, Bool.and_true, decide_eq_true_eq, Bool.not_eq_eq_eq_not, exists_eq_left, exists_eq_left', Option.some.injEq, eH]
    exact ⟨h, ints?_map h, hN _ rfl⟩
  rintro S rfl
  refine seq_cut (fun S => ∃ F : Nat, h.sum < ((2 ^ F : Nat) : Int) ∧ F ≤ 103 ∧ S = [.un, .rng a c, .im (eH h), .im (.int (F : Int)), .im (.int 0), .un, .un, .un]) (fun Nx hN => ?_) ?_
  · simp only [w_law_3]
    refine ⟨h.sum.toNat + 1, wh_ok (fun (s : Nat × Nat) S => S = [.un, .rng a c, .im (eH h), .im (.int (s.1 : Int)), .im (.int (s.2 : Int)), .un, .un, .un] ∧ s.1 ≤ 103 ∧ s.2 * 2 ^ s.1 ≤ h.sum.toNat ∧ h.sum.toNat < (s.2 + 1) * 2 ^ s.1) (fun s => s.2) ?_ _ (0, h.sum.toNat) _ (Nat.lt_succ_self _) ⟨by rw [← es]; rfl, Nat.zero_le _, by simp, by simp⟩⟩
    rintro ⟨F, n⟩ S ⟨rfl, f1, f2, f3⟩ Nx2 hN2
    have f1 : F ≤ 103 := f1
    have f2 : n * 2 ^ F ≤ h.sum.toNat := f2
    have f3 : h.sum.toNat < (n + 1) * 2 ^ F := f3
    have e4 : ((n : Int) / 2) = ((n / 2 : Nat) : Int) := rfl
    have e5 : ((F : Int) + 1) = ((F + 1 : Nat) : Int) := rfl
    have d2 : CDivW (n : Int) 2 := ⟨by decide, by decide⟩
    by_cases c0 : 0 < n
    · have c1 : (0 : Int) < n := by omega
      have f4 : F < 103 := by
        rcases Nat.lt_or_ge F 103 with z | z
        · exact z
        · have a1 := Nat.pow_le_pow_right (n := 2) (by decide) z
          have a2 : 1 * 2 ^ F ≤ n * 2 ^ F := Nat.mul_le_mul_right _ c0
          omega
      have e6 : 2 ^ (F + 1) = 2 * 2 ^ F := Nat.pow_succ'
      simp only [bl?, g2, gAdd, gDiv, gEq, gGe, gGt, gI, gIn, gInt, gIs, gIsNot, gLe, gLen, gList, gLt, gMM, gMod, gMul, gMulS, gNe, gNotIn, gPow, gSorted, gSub, gIadd, gSum, gTuple, puts, sV, sVs, slotM, wAnd, wApp, wAsg, wAug, wAugI, wB, wC, wCall, wCallR, wChain, wCons, wDraw, wDrop, wEnL, wEnT, wExt, wFn, wFnO, wFor, wGCons, wGNil, wGT, wIL, wIT, wIdx, wIf, wIfS, wIsi, wIx, wLc, wLst, wMNil, wMO, wMV, wMix, wN, wNeg, wNil, wNot, wNotT, wO, wOp, wOr, wOwn, wPar, wR1, wR2, wRaise, wRaiseF, wRet, wSeq, wSet, wSetI, wSkip, wTAnd, wTNot, wTOr, wTru, wTry, wTryF, wTup, wV, wYes, wSplit, wJoin, wRstrip, wFmt, wJNil, wJCons, wJs, gStr, gIntS, wIS, gSignNotIn, wSl, wSlt, wPn, wPs, gMulT, wGL, wTryAs, wXf, wXis, wCat, wCatV, wIxV, wDGet, wDIn, wDInT, wDGet2, wDPut, wDisp1, wOwnD, wMD, wForD, wLcD, wFz, wMv, wMinD, gListD, fzS, wDK, wDT, wFldO, wFldS, wMeth, wProp, wLenO, wCallO, wMake, wNewOb, wNewObL, wMethC, gLenD, wDGetV, wPopS, wUpd, wLV, wLI, wForIt, wSortSet, wCallIx, gSortedT, wTabIx, wTree, wForChg, messSlot, wSortLam, wAsgO, startS, List.length_cons, List.length_nil, List.map_cons, List.map_nil, List.getElem?_cons_zero, List.getElem?_cons_succ, List.set_cons_zero, List.set_cons_succ, List.cons_append, List.nil_append, List.append_nil, List.replicate_succ, List.replicate_zero, Nat.reduceAdd, Nat.reduceSub, ↓reduceIte, Bool.false_eq_true, reduceCtorEq, true_and, and_true, true_or, or_true, false_or, or_false, Bool.not_true, Bool.not_false, Bool.true_and, Bool.false_and, Bool.and_true, decide_eq_true_eq, Bool.not_eq_eq_eq_not, exists_eq_left, exists_eq_left', Option.some.injEq, c1, decide_true, e4, e5, flats, flat, Bool.and_self]
      refine ⟨d2, hN2 (F + 1, n / 2) _ (by show n / 2 < n; omega) ⟨rfl, by show F + 1 ≤ 103; omega, ?_, ?_⟩⟩
      · show n / 2 * 2 ^ (F + 1) ≤ _
        rw [e6, ← Nat.mul_assoc]
        exact Nat.le_trans (Nat.mul_le_mul_right _ (by omega)) f2
      · show _ < (n / 2 + 1) * 2 ^ (F + 1)
        rw [e6, ← Nat.mul_assoc]
        exact Nat.lt_of_lt_of_le f3 (Nat.mul_le_mul_right _ (by omega))
    · have c1 : ¬ (0 : Int) < n := by omega
      have n0 : n = 0 := by omega
      subst n0
      simp only [bl?, g2, gAdd, gDiv, gEq, gGe, gGt, gI, gIn, gInt, gIs, gIsNot, gLe, gLen, gList, gLt, gMM, gMod, gMul, gMulS, gNe, gNotIn, gPow, gSorted, gSub, gIadd, gSum, gTuple, puts, sV, sVs, slotM, wAnd, wApp, wAsg, wAug, wAugI, wB, wC, wCall, wCallR, wChain, wCons, wDraw, wDrop, wEnL, wEnT, wExt, wFn, wFnO, wFor, wGCons, wGNil, wGT, wIL, wIT, wIdx, wIf, wIfS, wIsi, wIx, wLc, wLst, wMNil, wMO, wMV, wMix, wN, wNeg, wNil, wNot, wNotT, wO, wOp, wOr, wOwn, wPar, wR1, wR2, wRaise, wRaiseF, wRet, wSeq, wSet, wSetI, wSkip, wTAnd, wTNot, wTOr, wTru, wTry, wTryF, wTup, wV, wYes, wSplit, wJoin, wRstrip, wFmt, wJNil, wJCons, wJs, gStr, gIntS, wIS, gSignNotIn, wSl, wSlt, wPn, wPs, gMulT, wGL, wTryAs, wXf, wXis, wCat, wCatV, wIxV, wDGet, wDIn, wDInT, wDGet2, wDPut, wDisp1, wOwnD, wMD, wForD, wLcD, wFz, wMv, wMinD, gListD, fzS, wDK, wDT, wFldO, wFldS, wMeth, wProp, wLenO, wCallO, wMake, wNewOb, wNewObL, wMethC, gLenD, wDGetV, wPopS, wUpd, wLV, wLI, wForIt, wSortSet, wCallIx, gSortedT, wTabIx, wTree, wForChg, messSlot, wSortLam, wAsgO, startS, List.length_cons, List.length_nil, List.map_cons, List.map_nil, List.getElem?_cons_zero, List.getElem?_cons_succ, List.set_cons_zero, List.set_cons_succ, List.cons_append, List.nil_append, List.append_nil, List.replicate_succ, List.replicate_zero, Nat.reduceAdd, Nat.reduceSub, ↓reduceIte, Bool.false_eq_true, reduceCtorEq, true_and, and_true, true_or, or_true, false_or, or_false, Bool.not_true, Bool.not_false, Bool.true_and, Bool.false_and, Bool.and_true, decide_eq_true_eq, Bool.not_eq_eq_eq_not, exists_eq_left, exists_eq_left', Option.some.injEq, c1, decide_false]
      rw [Nat.zero_add, Nat.one_mul] at f3
      exact hN _ ⟨F, by omega, f1, rfl⟩
  rintro S ⟨F, hF, F103, rfl⟩
  have FF : F * F ≤ 103 * 103 := Nat.mul_le_mul F103 F103
  have eF : (F : Int) * (F : Int) = ((F * F : Nat) : Int) := (Int.natCast_mul F F).symm
  refine seq_cut (fun S => S = [.un, .rng a c, .im (eH h), .im (.int (F : Int)), .im (.int 0), .im (.int ((F * F : Nat) : Int)), .un, .un]) (fun Nx hN => ?_) ?_
  · simp only [w_law_4, bl?, g2, gAdd, gDiv, gEq, gGe, gGt, gI, gIn, gInt, gIs, gIsNot, gLe, gLen, gList, gLt, gMM, gMod, gMul, gMulS, gNe, gNotIn, gPow, gSorted, gSub, gIadd, gSum, gTuple, puts, sV, sVs, slotM, wAnd, wApp, wAsg, wAug, wAugI, wB, wC, wCall, wCallR, wChain, wCons, wDraw, wDrop, wEnL, wEnT, wExt, wFn, wFnO, wFor, wGCons, wGNil, wGT, wIL, wIT, wIdx, wIf, wIfS, wIsi, wIx, wLc, wLst, wMNil, wMO, wMV, wMix, wN, wNeg, wNil, wNot, wNotT, wO, wOp, wOr, wOwn, wPar, wR1, wR2, wRaise, wRaiseF, wRet, wSeq, wSet, wSetI, wSkip, wTAnd, wTNot, wTOr, wTru, wTry, wTryF, wTup, wV, wYes, wSplit, wJoin, wRstrip, wFmt, wJNil, wJCons, wJs, gStr, gIntS, wIS, gSignNotIn, wSl, wSlt, wPn, wPs, gMulT, wGL, wTryAs, wXf, wXis, wCat, wCatV, wIxV, wDGet, wDIn, wDInT, wDGet2, wDPut, wDisp1, wOwnD, wMD, wForD, wLcD, wFz, wMv, wMinD, gListD, fzS, wDK, wDT, wFldO, wFldS, wMeth, wProp, wLenO, wCallO, wMake, wNewOb, wNewObL, wMethC, gLenD, wDGetV, wPopS, wUpd, wLV, wLI, wForIt, wSortSet, wCallIx, gSortedT, wTabIx, wTree, wForChg, messSlot, wSortLam, wAsgO, startS, List.length_cons, List.length_nil, List.map_cons, List.map_nil, List.getElem?_cons_zero, List.getElem?_cons_succ, List.set_cons_zero, List.set_cons_succ, List.cons_append, List.nil_append, List.append_nil, List.replicate_succ, List.replicate_zero, Nat.reduceAdd, Nat.reduceSub, ↓reduceIte, Bool.false_eq_true, reduceCtorEq, true_and, and_true, true_or, or_true, false_or, or_false, Bool.not_true, Bool.not_false, Bool.true_and, Bool.false_and, Bool.and_true, decide_eq_true_eq, Bool.not_eq_eq_eq_not, exists_eq_left, exists_eq_left', Option.some.injEq, eF]
    exact ⟨mulZ (by omega) (by omega) (by omega) (by omega), hN _ rfl⟩
  rintro S rfl
  refine seq_cut (fun S => S = [.un, .rng a c, .im (eH h), .im (.int (F : Int)), .im (.int 0), .im (.int ((F * F : Nat) : Int)), .un, .un]) (fun Nx hN => ?_) ?_
  · simp only [w_law_5, bl?, g2, gAdd, gDiv, gEq, gGe, gGt, gI, gIn, gInt, gIs, gIsNot, gLe, gLen, gList, gLt, gMM, gMod, gMul, gMulS, gNe, gNotIn, gPow, gSorted, gSub, gIadd, gSum, gTuple, puts, sV, sVs, slotM, wAnd, wApp, wAsg, wAug, wAugI, wB, wC, wCall, wCallR, wChain, wCons, wDraw, wDrop, wEnL, wEnT, wExt, wFn, wFnO, wFor, wGCons, wGNil, wGT, wIL, wIT, wIdx, wIf, wIfS, wIsi, wIx, wLc, wLst, wMNil, wMO, wMV, wMix, wN, wNeg, wNil, wNot, wNotT, wO, wOp, wOr, wOwn, wPar, wR1, wR2, wRaise, wRaiseF, wRet, wSeq, wSet, wSetI, wSkip, wTAnd, wTNot, wTOr, wTru, wTry, wTryF, wTup, wV, wYes, wSplit, wJoin, wRstrip, wFmt, wJNil, wJCons, wJs, gStr, gIntS, wIS, gSignNotIn, wSl, wSlt, wPn, wPs, gMulT, wGL, wTryAs, wXf, wXis, wCat, wCatV, wIxV, wDGet, wDIn, wDInT, wDGet2, wDPut, wDisp1, wOwnD, wMD, wForD, wLcD, wFz, wMv, wMinD, gListD, fzS, wDK, wDT, wFldO, wFldS, wMeth, wProp, wLenO, wCallO, wMake, wNewOb, wNewObL, wMethC, gLenD, wDGetV, wPopS, wUpd, wLV, wLI, wForIt, wSortSet, wCallIx, gSortedT, wTabIx, wTree, wForChg, messSlot, wSortLam, wAsgO, startS, List.length_cons, List.length_nil, List.map_cons, List.map_nil, List.getElem?_cons_zero, List.getElem?_cons_succ, List.set_cons_zero, List.set_cons_succ, List.cons_append, List.nil_append, List.append_nil, List.replicate_succ, List.replicate_zero, Nat.reduceAdd, Nat.reduceSub, ↓reduceIte, Bool.false_eq_true, reduceCtorEq, true_and, and_true, true_or, or_true, false_or, or_false, Bool.not_true, Bool.not_false, Bool.true_and, Bool.false_and, Bool.and_true, decide_eq_true_eq, Bool.not_eq_eq_eq_not, exists_eq_left, exists_eq_left', Option.some.injEq]
    refine ⟨h, rfl, oh, fun l f O => ?_⟩
    refine oddl_use oh fun l' f' O' => ?_
    have e := O.uniq O'
    subst e
    simp only [shaped_int, eqv_int, decide_true, startS, List.length_cons, List.length_nil, List.map_cons, List.map_nil, List.getElem?_cons_zero, List.getElem?_cons_succ, List.set_cons_zero, List.set_cons_succ, List.cons_append, List.nil_append, List.append_nil, List.replicate_succ, List.replicate_zero, Nat.reduceAdd, Nat.reduceSub, ↓reduceIte, Bool.false_eq_true, reduceCtorEq, true_and, and_true, true_or, or_true, false_or, or_false, Bool.not_true, Bool.not_false, Bool.true_and, Bool.false_and, Bool.and_true, decide_eq_true_eq, Bool.not_eq_eq_eq_not, exists_eq_left, exists_eq_left', Option.some.injEq]
    exact hN _ rfl
  rintro S rfl
  generalize hM : F * F = M at *
  have hK : CMulW (M : Int) (h.length : Int) := mulZ (by omega) (by omega) (by omega) (by omega)
  have eK : (M : Int) * (h.length : Int) = ((M * h.length : Nat) : Int) := (Int.natCast_mul M h.length).symm
  refine seq_cut (fun S => ∃ s6 s7, S = [.un, .rng a c, .im (eH h), .im (.int (F : Int)), .im (.int 0), .im (.int (M : Int)), s6, s7]) (fun Nx hN => ?_) ?_
  · simp only [w_law_6]
    by_cases c3 : 2 < h.length
    · have c4 : (2 : Int) < h.length := by omega
      simp only [bl?, g2, gAdd, gDiv, gEq, gGe, gGt, gI, gIn, gInt, gIs, gIsNot, gLe, gLen, gList, gLt, gMM, gMod, gMul, gMulS, gNe, gNotIn, gPow, gSorted, gSub, gIadd, gSum, gTuple, puts, sV, sVs, slotM, wAnd, wApp, wAsg, wAug, wAugI, wB, wC, wCall, wCallR, wChain, wCons, wDraw, wDrop, wEnL, wEnT, wExt, wFn, wFnO, wFor, wGCons, wGNil, wGT, wIL, wIT, wIdx, wIf, wIfS, wIsi, wIx, wLc, wLst, wMNil, wMO, wMV, wMix, wN, wNeg, wNil, wNot, wNotT, wO, wOp, wOr, wOwn, wPar, wR1, wR2, wRaise, wRaiseF, wRet, wSeq, wSet, wSetI, wSkip, wTAnd, wTNot, wTOr, wTru, wTry, wTryF, wTup, wV, wYes, wSplit, wJoin, wRstrip, wFmt, wJNil, wJCons, wJs, gStr, gIntS, wIS, gSignNotIn, wSl, wSlt, wPn, wPs, gMulT, wGL, wTryAs, wXf, wXis, wCat, wCatV, wIxV, wDGet, wDIn, wDInT, wDGet2, wDPut, wDisp1, wOwnD, wMD, wForD, wLcD, wFz, wMv, wMinD, gListD, fzS, wDK, wDT, wFldO, wFldS, wMeth, wProp, wLenO, wCallO, wMake, wNewOb, wNewObL, wMethC, gLenD, wDGetV, wPopS, wUpd, wLV, wLI, wForIt, wSortSet, wCallIx, gSortedT, wTabIx, wTree, wForChg, messSlot, wSortLam, wAsgO, startS, List.length_cons, List.length_nil, List.map_cons, List.map_nil, List.getElem?_cons_zero, List.getElem?_cons_succ, List.set_cons_zero, List.set_cons_succ, List.cons_append, List.nil_append, List.append_nil, List.replicate_succ, List.replicate_zero, Nat.reduceAdd, Nat.reduceSub, ↓reduceIte, Bool.false_eq_true, reduceCtorEq, true_and, and_true, true_or, or_true, false_or, or_false, Bool.not_true, Bool.not_false, Bool.true_and, Bool.false_and, Bool.and_true, decide_eq_true_eq, Bool.not_eq_eq_eq_not, exists_eq_left, exists_eq_left', Option.some.injEq, eH, len_eH, c4, decide_true]
      simp only [w_law_6_1, bl?, g2, gAdd, gDiv, gEq, gGe, gGt, gI, gIn, gInt, gIs, gIsNot, gLe, gLen, gList, gLt, gMM, gMod, gMul, gMulS, gNe, gNotIn, gPow, gSorted, gSub, gIadd, gSum, gTuple, puts, sV, sVs, slotM, wAnd, wApp, wAsg, wAug, wAugI, wB, wC, wCall, wCallR, wChain, wCons, wDraw, wDrop, wEnL, wEnT, wExt, wFn, wFnO, wFor, wGCons, wGNil, wGT, wIL, wIT, wIdx, wIf, wIfS, wIsi, wIx, wLc, wLst, wMNil, wMO, wMV, wMix, wN, wNeg, wNil, wNot, wNotT, wO, wOp, wOr, wOwn, wPar, wR1, wR2, wRaise, wRaiseF, wRet, wSeq, wSet, wSetI, wSkip, wTAnd, wTNot, wTOr, wTru, wTry, wTryF, wTup, wV, wYes, wSplit, wJoin, wRstrip, wFmt, wJNil, wJCons, wJs, gStr, gIntS, wIS, gSignNotIn, wSl, wSlt, wPn, wPs, gMulT, wGL, wTryAs, wXf, wXis, wCat, wCatV, wIxV, wDGet, wDIn, wDInT, wDGet2, wDPut, wDisp1, wOwnD, wMD, wForD, wLcD, wFz, wMv, wMinD, gListD, fzS, wDK, wDT, wFldO, wFldS, wMeth, wProp, wLenO, wCallO, wMake, wNewOb, wNewObL, wMethC, gLenD, wDGetV, wPopS, wUpd, wLV, wLI, wForIt, wSortSet, wCallIx, gSortedT, wTabIx, wTree, wForChg, messSlot, wSortLam, wAsgO, startS, List.length_cons, List.length_nil, List.map_cons, List.map_nil, List.getElem?_cons_zero, List.getElem?_cons_succ, List.set_cons_zero, List.set_cons_succ, List.cons_append, List.nil_append, List.append_nil, List.replicate_succ, List.replicate_zero, Nat.reduceAdd, Nat.reduceSub, ↓reduceIte, Bool.false_eq_true, reduceCtorEq, true_and, and_true, true_or, or_true, false_or, or_false, Bool.not_true, Bool.not_false, Bool.true_and, Bool.false_and, Bool.and_true, decide_eq_true_eq, Bool.not_eq_eq_eq_not, exists_eq_left, exists_eq_left', Option.some.injEq]
      refine ⟨h, rfl, oh, by omega, fun g p T => ?_⟩
      simp only [w_law_6_2, bl?, g2, gAdd, gDiv, gEq, gGe, gGt, gI, gIn, gInt, gIs, gIsNot, gLe, gLen, gList, gLt, gMM, gMod, gMul, gMulS, gNe, gNotIn, gPow, gSorted, gSub, gIadd, gSum, gTuple, puts, sV, sVs, slotM, wAnd, wApp, wAsg, wAug, wAugI, wB, wC, wCall, wCallR, wChain, wCons, wDraw, wDrop, wEnL, wEnT, wExt, wFn, wFnO, wFor, wGCons, wGNil, wGT, wIL, wIT, wIdx, wIf, wIfS, wIsi, wIx, wLc, wLst, wMNil, wMO, wMV, wMix, wN, wNeg, wNil, wNot, wNotT, wO, wOp, wOr, wOwn, wPar, wR1, wR2, wRaise, wRaiseF, wRet, wSeq, wSet, wSetI, wSkip, wTAnd, wTNot, wTOr, wTru, wTry, wTryF, wTup, wV, wYes, wSplit, wJoin, wRstrip, wFmt, wJNil, wJCons, wJs, gStr, gIntS, wIS, gSignNotIn, wSl, wSlt, wPn, wPs, gMulT, wGL, wTryAs, wXf, wXis, wCat, wCatV, wIxV, wDGet, wDIn, wDInT, wDGet2, wDPut, wDisp1, wOwnD, wMD, wForD, wLcD, wFz, wMv, wMinD, gListD, fzS, wDK, wDT, wFldO, wFldS, wMeth, wProp, wLenO, wCallO, wMake, wNewOb, wNewObL, wMethC, gLenD, wDGetV, wPopS, wUpd, wLV, wLI, wForIt, wSortSet, wCallIx, gSortedT, wTabIx, wTree, wForChg, messSlot, wSortLam, wAsgO, startS, List.length_cons, List.length_nil, List.map_cons, List.map_nil, List.getElem?_cons_zero, List.getElem?_cons_succ, List.set_cons_zero, List.set_cons_succ, List.cons_append, List.nil_append, List.append_nil, List.replicate_succ, List.replicate_zero, Nat.reduceAdd, Nat.reduceSub, ↓reduceIte, Bool.false_eq_true, reduceCtorEq, true_and, and_true, true_or, or_true, false_or, or_false, Bool.not_true, Bool.not_false, Bool.true_and, Bool.false_and, Bool.and_true, decide_eq_true_eq, Bool.not_eq_eq_eq_not, exists_eq_left, exists_eq_left', Option.some.injEq]
      refine gone_use l6 T.ru ?_
      obtain ⟨i, hi, gi⟩ := T.em
      have lp := T.le F hF
      rw [hM] at lp
      have lg := runs_len T.ru
      simp only [w_law_6_3, bl?, g2, gAdd, gDiv, gEq, gGe, gGt, gI, gIn, gInt, gIs, gIsNot, gLe, gLen, gList, gLt, gMM, gMod, gMul, gMulS, gNe, gNotIn, gPow, gSorted, gSub, gIadd, gSum, gTuple, puts, sV, sVs, slotM, wAnd, wApp, wAsg, wAug, wAugI, wB, wC, wCall, wCallR, wChain, wCons, wDraw, wDrop, wEnL, wEnT, wExt, wFn, wFnO, wFor, wGCons, wGNil, wGT, wIL, wIT, wIdx, wIf, wIfS, wIsi, wIx, wLc, wLst, wMNil, wMO, wMV, wMix, wN, wNeg, wNil, wNot, wNotT, wO, wOp, wOr, wOwn, wPar, wR1, wR2, wRaise, wRaiseF, wRet, wSeq, wSet, wSetI, wSkip, wTAnd, wTNot, wTOr, wTru, wTry, wTryF, wTup, wV, wYes, wSplit, wJoin, wRstrip, wFmt, wJNil, wJCons, wJs, gStr, gIntS, wIS, gSignNotIn, wSl, wSlt, wPn, wPs, gMulT, wGL, wTryAs, wXf, wXis, wCat, wCatV, wIxV, wDGet, wDIn, wDInT, wDGet2, wDPut, wDisp1, wOwnD, wMD, wForD, wLcD, wFz, wMv, wMinD, gListD, fzS, wDK, wDT, wFldO, wFldS, wMeth, wProp, wLenO, wCallO, wMake, wNewOb, wNewObL, wMethC, gLenD, wDGetV, wPopS, wUpd, wLV, wLI, wForIt, wSortSet, wCallIx, gSortedT, wTabIx, wTree, wForChg, messSlot, wSortLam, wAsgO, startS, List.length_cons, List.length_nil, List.map_cons, List.map_nil, List.getElem?_cons_zero, List.getElem?_cons_succ, List.set_cons_zero, List.set_cons_succ, List.cons_append, List.nil_append, List.append_nil, List.replicate_succ, List.replicate_zero, Nat.reduceAdd, Nat.reduceSub, ↓reduceIte, Bool.false_eq_true, reduceCtorEq, true_and, and_true, true_or, or_true, false_or, or_false, Bool.not_true, Bool.not_false, Bool.true_and, Bool.false_and, Bool.and_true, decide_eq_true_eq, Bool.not_eq_eq_eq_not, exists_eq_left, exists_eq_left', Option.some.injEq, eH, eL, len_eL]
      obtain ⟨y, r, eg⟩ : ∃ y r, g = y :: r := by
        cases g with
        | nil => simp at lg; omega
        | cons y r => exact ⟨y, r, rfl⟩
      refine ⟨y, r, by rw [eg]; exact ints?_map (y :: r), ?_⟩
      have m0 : ¬ 0 < r.foldl min y := by
        obtain ⟨a1, a2⟩ := fmin_le r y
        have mi : gt g i ∈ g := gt_mem (by omega)
        rw [gi, eg] at mi
        rcases List.mem_cons.mp mi with z | z
        · omega
        · have := a2 _ z; omega
      have m1 : ¬ (M : Int) < p.length := by omega
      simp only [m0, m1, decide_false, startS, List.length_cons, List.length_nil, List.map_cons, List.map_nil, List.getElem?_cons_zero, List.getElem?_cons_succ, List.set_cons_zero, List.set_cons_succ, List.cons_append, List.nil_append, List.append_nil, List.replicate_succ, List.replicate_zero, Nat.reduceAdd, Nat.reduceSub, ↓reduceIte, Bool.false_eq_true, reduceCtorEq, true_and, and_true, true_or, or_true, false_or, or_false, Bool.not_true, Bool.not_false, Bool.true_and, Bool.false_and, Bool.and_true, decide_eq_true_eq, Bool.not_eq_eq_eq_not, exists_eq_left, exists_eq_left', Option.some.injEq]
      exact hN _ ⟨_, _, rfl⟩
    · have c4 : ¬ (2 : Int) < h.length := by omega
      simp only [bl?, g2, gAdd, gDiv, gEq, gGe, gGt, gI, gIn, gInt, gIs, gIsNot, gLe, gLen, gList, gLt, gMM, gMod, gMul, gMulS, gNe, gNotIn, gPow, gSorted, gSub, gIadd, gSum, gTuple, puts, sV, sVs, slotM, wAnd, wApp, wAsg, wAug, wAugI, wB, wC, wCall, wCallR, wChain, wCons, wDraw, wDrop, wEnL, wEnT, wExt, wFn, wFnO, wFor, wGCons, wGNil, wGT, wIL, wIT, wIdx, wIf, wIfS, wIsi, wIx, wLc, wLst, wMNil, wMO, wMV, wMix, wN, wNeg, wNil, wNot, wNotT, wO, wOp, wOr, wOwn, wPar, wR1, wR2, wRaise, wRaiseF, wRet, wSeq, wSet, wSetI, wSkip, wTAnd, wTNot, wTOr, wTru, wTry, wTryF, wTup, wV, wYes, wSplit, wJoin, wRstrip, wFmt, wJNil, wJCons, wJs, gStr, gIntS, wIS, gSignNotIn, wSl, wSlt, wPn, wPs, gMulT, wGL, wTryAs, wXf, wXis, wCat, wCatV, wIxV, wDGet, wDIn, wDInT, wDGet2, wDPut, wDisp1, wOwnD, wMD, wForD, wLcD, wFz, wMv, wMinD, gListD, fzS, wDK, wDT, wFldO, wFldS, wMeth, wProp, wLenO, wCallO, wMake, wNewOb, wNewObL, wMethC, gLenD, wDGetV, wPopS, wUpd, wLV, wLI, wForIt, wSortSet, wCallIx, gSortedT, wTabIx, wTree, wForChg, messSlot, wSortLam, wAsgO, startS, List.length_cons, List.length_nil, List.map_cons, List.map_nil, List.getElem?_cons_zero, List.getElem?_cons_succ, List.set_cons_zero, List.set_cons_succ, List.cons_append, List.nil_append, List.append_nil, List.replicate_succ, List.replicate_zero, Nat.reduceAdd, Nat.reduceSub, ↓reduceIte, Bool.false_eq_true, reduceCtorEq, true_and, and_true, true_or, or_true, false_or, or_false, Bool.not_true, Bool.not_false, Bool.true_and, Bool.false_and, Bool.and_true, decide_eq_true_eq, Bool.not_eq_eq_eq_not, exists_eq_left, exists_eq_left', Option.some.injEq, eH, len_eH, c4, decide_false]
      exact hN _ ⟨_, _, rfl⟩
  rintro S ⟨s6, s7, rfl⟩
  refine seq_cut (fun S => ∃ g p, PairR h p g ∧ S = [.un, .rng a c, .im (eH h), .im (.int (F : Int)), .im (.int 0), .im (.int (M : Int)), .im (eL p), s7]) (fun Nx hN => ?_) ?_
  · simp only [w_law_7, bl?, g2, gAdd, gDiv, gEq, gGe, gGt, gI, gIn, gInt, gIs, gIsNot, gLe, gLen, gList, gLt, gMM, gMod, gMul, gMulS, gNe, gNotIn, gPow, gSorted, gSub, gIadd, gSum, gTuple, puts, sV, sVs, slotM, wAnd, wApp, wAsg, wAug, wAugI, wB, wC, wCall, wCallR, wChain, wCons, wDraw, wDrop, wEnL, wEnT, wExt, wFn, wFnO, wFor, wGCons, wGNil, wGT, wIL, wIT, wIdx, wIf, wIfS, wIsi, wIx, wLc, wLst, wMNil, wMO, wMV, wMix, wN, wNeg, wNil, wNot, wNotT, wO, wOp, wOr, wOwn, wPar, wR1, wR2, wRaise, wRaiseF, wRet, wSeq, wSet, wSetI, wSkip, wTAnd, wTNot, wTOr, wTru, wTry, wTryF, wTup, wV, wYes, wSplit, wJoin, wRstrip, wFmt, wJNil, wJCons, wJs, gStr, gIntS, wIS, gSignNotIn, wSl, wSlt, wPn, wPs, gMulT, wGL, wTryAs, wXf, wXis, wCat, wCatV, wIxV, wDGet, wDIn, wDInT, wDGet2, wDPut, wDisp1, wOwnD, wMD, wForD, wLcD, wFz, wMv, wMinD, gListD, fzS, wDK, wDT, wFldO, wFldS, wMeth, wProp, wLenO, wCallO, wMake, wNewOb, wNewObL, wMethC, gLenD, wDGetV, wPopS, wUpd, wLV, wLI, wForIt, wSortSet, wCallIx, gSortedT, wTabIx, wTree, wForChg, messSlot, wSortLam, wAsgO, startS, List.length_cons, List.length_nil, List.map_cons, List.map_nil, List.getElem?_cons_zero, List.getElem?_cons_succ, List.set_cons_zero, List.set_cons_succ, List.cons_append, List.nil_append, List.append_nil, List.replicate_succ, List.replicate_zero, Nat.reduceAdd, Nat.reduceSub, ↓reduceIte, Bool.false_eq_true, reduceCtorEq, true_and, and_true, true_or, or_true, false_or, or_false, Bool.not_true, Bool.not_false, Bool.true_and, Bool.false_and, Bool.and_true, decide_eq_true_eq, Bool.not_eq_eq_eq_not, exists_eq_left, exists_eq_left', Option.some.injEq]
    exact ⟨h, rfl, oh, fun g p r => hN _ ⟨g, p, r, rfl⟩⟩
  rintro S ⟨g, p, r, rfl⟩
  refine seq_cut (fun S => S = [.un, .rng a c, .im (eH h), .im (.int (F : Int)), .im (.int 0), .im (.int (M : Int)), .im (eL p), .im (eH g)]) (fun Nx hN => ?_) ?_
  · simp only [w_law_8, bl?, g2, gAdd, gDiv, gEq, gGe, gGt, gI, gIn, gInt, gIs, gIsNot, gLe, gLen, gList, gLt, gMM, gMod, gMul, gMulS, gNe, gNotIn, gPow, gSorted, gSub, gIadd, gSum, gTuple, puts, sV, sVs, slotM, wAnd, wApp, wAsg, wAug, wAugI, wB, wC, wCall, wCallR, wChain, wCons, wDraw, wDrop, wEnL, wEnT, wExt, wFn, wFnO, wFor, wGCons, wGNil, wGT, wIL, wIT, wIdx, wIf, wIfS, wIsi, wIx, wLc, wLst, wMNil, wMO, wMV, wMix, wN, wNeg, wNil, wNot, wNotT, wO, wOp, wOr, wOwn, wPar, wR1, wR2, wRaise, wRaiseF, wRet, wSeq, wSet, wSetI, wSkip, wTAnd, wTNot, wTOr, wTru, wTry, wTryF, wTup, wV, wYes, wSplit, wJoin, wRstrip, wFmt, wJNil, wJCons, wJs, gStr, gIntS, wIS, gSignNotIn, wSl, wSlt, wPn, wPs, gMulT, wGL, wTryAs, wXf, wXis, wCat, wCatV, wIxV, wDGet, wDIn, wDInT, wDGet2, wDPut, wDisp1, wOwnD, wMD, wForD, wLcD, wFz, wMv, wMinD, gListD, fzS, wDK, wDT, wFldO, wFldS, wMeth, wProp, wLenO, wCallO, wMake, wNewOb, wNewObL, wMethC, gLenD, wDGetV, wPopS, wUpd, wLV, wLI, wForIt, wSortSet, wCallIx, gSortedT, wTabIx, wTree, wForChg, messSlot, wSortLam, wAsgO, startS, List.length_cons, List.length_nil, List.map_cons, List.map_nil, List.getElem?_cons_zero, List.getElem?_cons_succ, List.set_cons_zero, List.set_cons_succ, List.cons_append, List.nil_append, List.append_nil, List.replicate_succ, List.replicate_zero, Nat.reduceAdd, Nat.reduceSub, ↓reduceIte, Bool.false_eq_true, reduceCtorEq, true_and, and_true, true_or, or_true, false_or, or_false, Bool.not_true, Bool.not_false, Bool.true_and, Bool.false_and, Bool.and_true, decide_eq_true_eq, Bool.not_eq_eq_eq_not, exists_eq_left, exists_eq_left', Option.some.injEq]
    exact gone_use l6 r.ru (hN _ rfl)
  rintro S rfl
  refine seq_cut (fun S => S = [.un, .rng a c, .im (eH h), .im (.int (F : Int)), .im (.int 0), .im (.int (M : Int)), .im (eL p), .im (eH g)]) (fun Nx hN => ?_) ?_
  · have lp := r.le F hF
    rw [hM] at lp
    have hb : full h * M ≤ M * h.length := by rw [Nat.mul_comm]; exact Nat.mul_le_mul_left _ (full_le h)
    have fu := r.fu
    have m0 : ¬ (2 : Int) < ((full g : Nat) : Int) := by omega
    have m1 : ¬ ((M * h.length : Nat) : Int) < p.length := by omega
    have lg := runs_len r.ru
    simp only [w_law_9, bl?, g2, gAdd, gDiv, gEq, gGe, gGt, gI, gIn, gInt, gIs, gIsNot, gLe, gLen, gList, gLt, gMM, gMod, gMul, gMulS, gNe, gNotIn, gPow, gSorted, gSub, gIadd, gSum, gTuple, puts, sV, sVs, slotM, wAnd, wApp, wAsg, wAug, wAugI, wB, wC, wCall, wCallR, wChain, wCons, wDraw, wDrop, wEnL, wEnT, wExt, wFn, wFnO, wFor, wGCons, wGNil, wGT, wIL, wIT, wIdx, wIf, wIfS, wIsi, wIx, wLc, wLst, wMNil, wMO, wMV, wMix, wN, wNeg, wNil, wNot, wNotT, wO, wOp, wOr, wOwn, wPar, wR1, wR2, wRaise, wRaiseF, wRet, wSeq, wSet, wSetI, wSkip, wTAnd, wTNot, wTOr, wTru, wTry, wTryF, wTup, wV, wYes, wSplit, wJoin, wRstrip, wFmt, wJNil, wJCons, wJs, gStr, gIntS, wIS, gSignNotIn, wSl, wSlt, wPn, wPs, gMulT, wGL, wTryAs, wXf, wXis, wCat, wCatV, wIxV, wDGet, wDIn, wDInT, wDGet2, wDPut, wDisp1, wOwnD, wMD, wForD, wLcD, wFz, wMv, wMinD, gListD, fzS, wDK, wDT, wFldO, wFldS, wMeth, wProp, wLenO, wCallO, wMake, wNewOb, wNewObL, wMethC, gLenD, wDGetV, wPopS, wUpd, wLV, wLI, wForIt, wSortSet, wCallIx, gSortedT, wTabIx, wTree, wForChg, messSlot, wSortLam, wAsgO, startS, List.length_cons, List.length_nil, List.map_cons, List.map_nil, List.getElem?_cons_zero, List.getElem?_cons_succ, List.set_cons_zero, List.set_cons_succ, List.cons_append, List.nil_append, List.append_nil, List.replicate_succ, List.replicate_zero, Nat.reduceAdd, Nat.reduceSub, ↓reduceIte, Bool.false_eq_true, reduceCtorEq, true_and, and_true, true_or, or_true, false_or, or_false, Bool.not_true, Bool.not_false, Bool.true_and, Bool.false_and, Bool.and_true, decide_eq_true_eq, Bool.not_eq_eq_eq_not, exists_eq_left, exists_eq_left', Option.some.injEq, eH, eL, len_eL, len_eH, eK]
    refine lfull_use (by omega) ?_
    simp only [m0, decide_false, startS, List.length_cons, List.length_nil, List.map_cons, List.map_nil, List.getElem?_cons_zero, List.getElem?_cons_succ, List.set_cons_zero, List.set_cons_succ, List.cons_append, List.nil_append, List.append_nil, List.replicate_succ, List.replicate_zero, Nat.reduceAdd, Nat.reduceSub, ↓reduceIte, Bool.false_eq_true, reduceCtorEq, true_and, and_true, true_or, or_true, false_or, or_false, Bool.not_true, Bool.not_false, Bool.true_and, Bool.false_and, Bool.and_true, decide_eq_true_eq, Bool.not_eq_eq_eq_not, exists_eq_left, exists_eq_left', Option.some.injEq, eL, len_eL, len_eH, eK, m1]
    exact ⟨hK, hN _ rfl⟩
  rintro S rfl
  obtain ⟨l, f, O⟩ := OddH.ex oh
  have lo := O.odd
  by_cases cl : 1 < l
  · have c1 : (1 : Int) < l := by omega
    refine seq_cut (fun S => S = [.un, .rng a c, .im (eH h), .im (.int (F : Int)), .im (.int 0), .im (.int (M : Int)), .im .none, .im (eH g)]) (fun Nx hN => ?_) ?_
    · simp only [w_law_10, bl?, g2, gAdd, gDiv, gEq, gGe, gGt, gI, gIn, gInt, gIs, gIsNot, gLe, gLen, gList, gLt, gMM, gMod, gMul, gMulS, gNe, gNotIn, gPow, gSorted, gSub, gIadd, gSum, gTuple, puts, sV, sVs, slotM, wAnd, wApp, wAsg, wAug, wAugI, wB, wC, wCall, wCallR, wChain, wCons, wDraw, wDrop, wEnL, wEnT, wExt, wFn, wFnO, wFor, wGCons, wGNil, wGT, wIL, wIT, wIdx, wIf, wIfS, wIsi, wIx, wLc, wLst, wMNil, wMO, wMV, wMix, wN, wNeg, wNil, wNot, wNotT, wO, wOp, wOr, wOwn, wPar, wR1, wR2, wRaise, wRaiseF, wRet, wSeq, wSet, wSetI, wSkip, wTAnd, wTNot, wTOr, wTru, wTry, wTryF, wTup, wV, wYes, wSplit, wJoin, wRstrip, wFmt, wJNil, wJCons, wJs, gStr, gIntS, wIS, gSignNotIn, wSl, wSlt, wPn, wPs, gMulT, wGL, wTryAs, wXf, wXis, wCat, wCatV, wIxV, wDGet, wDIn, wDInT, wDGet2, wDPut, wDisp1, wOwnD, wMD, wForD, wLcD, wFz, wMv, wMinD, gListD, fzS, wDK, wDT, wFldO, wFldS, wMeth, wProp, wLenO, wCallO, wMake, wNewOb, wNewObL, wMethC, gLenD, wDGetV, wPopS, wUpd, wLV, wLI, wForIt, wSortSet, wCallIx, gSortedT, wTabIx, wTree, wForChg, messSlot, wSortLam, wAsgO, startS, List.length_cons, List.length_nil, List.map_cons, List.map_nil, List.getElem?_cons_zero, List.getElem?_cons_succ, List.set_cons_zero, List.set_cons_succ, List.cons_append, List.nil_append, List.append_nil, List.replicate_succ, List.replicate_zero, Nat.reduceAdd, Nat.reduceSub, ↓reduceIte, Bool.false_eq_true, reduceCtorEq, true_and, and_true, true_or, or_true, false_or, or_false, Bool.not_true, Bool.not_false, Bool.true_and, Bool.false_and, Bool.and_true, decide_eq_true_eq, Bool.not_eq_eq_eq_not, exists_eq_left, exists_eq_left', Option.some.injEq]
      exact ⟨h, rfl, oh, fun _ _ _ _ => hN _ rfl, fun f' O' => by
        have := O.uniq O'
        omega⟩
    rintro S rfl
    refine seq_cut (fun S => False) (fun Nx hN => ?_) (fun S z => z.elim)
    simp only [w_law_11, bl?, g2, gAdd, gDiv, gEq, gGe, gGt, gI, gIn, gInt, gIs, gIsNot, gLe, gLen, gList, gLt, gMM, gMod, gMul, gMulS, gNe, gNotIn, gPow, gSorted, gSub, gIadd, gSum, gTuple, puts, sV, sVs, slotM, wAnd, wApp, wAsg, wAug, wAugI, wB, wC, wCall, wCallR, wChain, wCons, wDraw, wDrop, wEnL, wEnT, wExt, wFn, wFnO, wFor, wGCons, wGNil, wGT, wIL, wIT, wIdx, wIf, wIfS, wIsi, wIx, wLc, wLst, wMNil, wMO, wMV, wMix, wN, wNeg, wNil, wNot, wNotT, wO, wOp, wOr, wOwn, wPar, wR1, wR2, wRaise, wRaiseF, wRet, wSeq, wSet, wSetI, wSkip, wTAnd, wTNot, wTOr, wTru, wTry, wTryF, wTup, wV, wYes, wSplit, wJoin, wRstrip, wFmt, wJNil, wJCons, wJs, gStr, gIntS, wIS, gSignNotIn, wSl, wSlt, wPn, wPs, gMulT, wGL, wTryAs, wXf, wXis, wCat, wCatV, wIxV, wDGet, wDIn, wDInT, wDGet2, wDPut, wDisp1, wOwnD, wMD, wForD, wLcD, wFz, wMv, wMinD, gListD, fzS, wDK, wDT, wFldO, wFldS, wMeth, wProp, wLenO, wCallO, wMake, wNewOb, wNewObL, wMethC, gLenD, wDGetV, wPopS, wUpd, wLV, wLI, wForIt, wSortSet, wCallIx, gSortedT, wTabIx, wTree, wForChg, messSlot, wSortLam, wAsgO, startS, List.length_cons, List.length_nil, List.map_cons, List.map_nil, List.getElem?_cons_zero, List.getElem?_cons_succ, List.set_cons_zero, List.set_cons_succ, List.cons_append, List.nil_append, List.append_nil, List.replicate_succ, List.replicate_zero, Nat.reduceAdd, Nat.reduceSub, ↓reduceIte, Bool.false_eq_true, reduceCtorEq, true_and, and_true, true_or, or_true, false_or, or_false, Bool.not_true, Bool.not_false, Bool.true_and, Bool.false_and, Bool.and_true, decide_eq_true_eq, Bool.not_eq_eq_eq_not, exists_eq_left, exists_eq_left', Option.some.injEq]
    refine oddl_use oh fun l' f' O' => ?_
    have e := O.uniq O'
    subst e
    simp only [c1, decide_true, startS, List.length_cons, List.length_nil, List.map_cons, List.map_nil, List.getElem?_cons_zero, List.getElem?_cons_succ, List.set_cons_zero, List.set_cons_succ, List.cons_append, List.nil_append, List.append_nil, List.replicate_succ, List.replicate_zero, Nat.reduceAdd, Nat.reduceSub, ↓reduceIte, Bool.false_eq_true, reduceCtorEq, true_and, and_true, true_or, or_true, false_or, or_false, Bool.not_true, Bool.not_false, Bool.true_and, Bool.false_and, Bool.and_true, decide_eq_true_eq, Bool.not_eq_eq_eq_not, exists_eq_left, exists_eq_left', Option.some.injEq]
  · have el : l = 1 := by omega
    subst el
    refine seq_cut (fun S => ∃ gE q, OneR h q gE ∧ S = [.un, .rng a c, .im (eH h), .im (.int (F : Int)), .im (.int 0), .im (.int (M : Int)), .im (eL q), .im (eH g)]) (fun Nx hN => ?_) ?_
    · simp only [w_law_10, bl?, g2, gAdd, gDiv, gEq, gGe, gGt, gI, gIn, gInt, gIs, gIsNot, gLe, gLen, gList, gLt, gMM, gMod, gMul, gMulS, gNe, gNotIn, gPow, gSorted, gSub, gIadd, gSum, gTuple, puts, sV, sVs, slotM, wAnd, wApp, wAsg, wAug, wAugI, wB, wC, wCall, wCallR, wChain, wCons, wDraw, wDrop, wEnL, wEnT, wExt, wFn, wFnO, wFor, wGCons, wGNil, wGT, wIL, wIT, wIdx, wIf, wIfS, wIsi, wIx, wLc, wLst, wMNil, wMO, wMV, wMix, wN, wNeg, wNil, wNot, wNotT, wO, wOp, wOr, wOwn, wPar, wR1, wR2, wRaise, wRaiseF, wRet, wSeq, wSet, wSetI, wSkip, wTAnd, wTNot, wTOr, wTru, wTry, wTryF, wTup, wV, wYes, wSplit, wJoin, wRstrip, wFmt, wJNil, wJCons, wJs, gStr, gIntS, wIS, gSignNotIn, wSl, wSlt, wPn, wPs, gMulT, wGL, wTryAs, wXf, wXis, wCat, wCatV, wIxV, wDGet, wDIn, wDInT, wDGet2, wDPut, wDisp1, wOwnD, wMD, wForD, wLcD, wFz, wMv, wMinD, gListD, fzS, wDK, wDT, wFldO, wFldS, wMeth, wProp, wLenO, wCallO, wMake, wNewOb, wNewObL, wMethC, gLenD, wDGetV, wPopS, wUpd, wLV, wLI, wForIt, wSortSet, wCallIx, gSortedT, wTabIx, wTree, wForChg, messSlot, wSortLam, wAsgO, startS, List.length_cons, List.length_nil, List.map_cons, List.map_nil, List.getElem?_cons_zero, List.getElem?_cons_succ, List.set_cons_zero, List.set_cons_succ, List.cons_append, List.nil_append, List.append_nil, List.replicate_succ, List.replicate_zero, Nat.reduceAdd, Nat.reduceSub, ↓reduceIte, Bool.false_eq_true, reduceCtorEq, true_and, and_true, true_or, or_true, false_or, or_false, Bool.not_true, Bool.not_false, Bool.true_and, Bool.false_and, Bool.and_true, decide_eq_true_eq, Bool.not_eq_eq_eq_not, exists_eq_left, exists_eq_left', Option.some.injEq]
      exact ⟨h, rfl, oh, fun l' f' O' hl => by
        have := O.uniq O'
        omega, fun f' O' gE q r => hN _ ⟨gE, q, r, rfl⟩⟩
    rintro S ⟨gE, q, r1, rfl⟩
    refine seq_cut (fun S => S = [.un, .rng a c, .im (eH h), .im (.int (F : Int)), .im (.int 0), .im (.int (M : Int)), .im (eL q), .im (eH g)]) (fun Nx hN => ?_) ?_
    · simp only [w_law_11, bl?, g2, gAdd, gDiv, gEq, gGe, gGt, gI, gIn, gInt, gIs, gIsNot, gLe, gLen, gList, gLt, gMM, gMod, gMul, gMulS, gNe, gNotIn, gPow, gSorted, gSub, gIadd, gSum, gTuple, puts, sV, sVs, slotM, wAnd, wApp, wAsg, wAug, wAugI, wB, wC, wCall, wCallR, wChain, wCons, wDraw, wDrop, wEnL, wEnT, wExt, wFn, wFnO, wFor, wGCons, wGNil, wGT, wIL, wIT, wIdx, wIf, wIfS, wIsi, wIx, wLc, wLst, wMNil, wMO, wMV, wMix, wN, wNeg, wNil, wNot, wNotT, wO, wOp, wOr, wOwn, wPar, wR1, wR2, wRaise, wRaiseF, wRet, wSeq, wSet, wSetI, wSkip, wTAnd, wTNot, wTOr, wTru, wTry, wTryF, wTup, wV, wYes, wSplit, wJoin, wRstrip, wFmt, wJNil, wJCons, wJs, gStr, gIntS, wIS, gSignNotIn, wSl, wSlt, wPn, wPs, gMulT, wGL, wTryAs, wXf, wXis, wCat, wCatV, wIxV, wDGet, wDIn, wDInT, wDGet2, wDPut, wDisp1, wOwnD, wMD, wForD, wLcD, wFz, wMv, wMinD, gListD, fzS, wDK, wDT, wFldO, wFldS, wMeth, wProp, wLenO, wCallO, wMake, wNewOb, wNewObL, wMethC, gLenD, wDGetV, wPopS, wUpd, wLV, wLI, wForIt, wSortSet, wCallIx, gSortedT, wTabIx, wTree, wForChg, messSlot, wSortLam, wAsgO, startS, List.length_cons, List.length_nil, List.map_cons, List.map_nil, List.getElem?_cons_zero, List.getElem?_cons_succ, List.set_cons_zero, List.set_cons_succ, List.cons_append, List.nil_append, List.append_nil, List.replicate_succ, List.replicate_zero, Nat.reduceAdd, Nat.reduceSub, ↓reduceIte, Bool.false_eq_true, reduceCtorEq, true_and, and_true, true_or, or_true, false_or, or_false, Bool.not_true, Bool.not_false, Bool.true_and, Bool.false_and, Bool.and_true, decide_eq_true_eq, Bool.not_eq_eq_eq_not, exists_eq_left, exists_eq_left', Option.some.injEq]
      refine oddl_use oh fun l' f' O' => ?_
      have e := O.uniq O'
      subst e
      have c1 : ¬ (1 : Int) < ((1 : Nat) : Int) := by omega
      simp only [c1, decide_false, startS, List.length_cons, List.length_nil, List.map_cons, List.map_nil, List.getElem?_cons_zero, List.getElem?_cons_succ, List.set_cons_zero, List.set_cons_succ, List.cons_append, List.nil_append, List.append_nil, List.replicate_succ, List.replicate_zero, Nat.reduceAdd, Nat.reduceSub, ↓reduceIte, Bool.false_eq_true, reduceCtorEq, true_and, and_true, true_or, or_true, false_or, or_false, Bool.not_true, Bool.not_false, Bool.true_and, Bool.false_and, Bool.and_true, decide_eq_true_eq, Bool.not_eq_eq_eq_not, exists_eq_left, exists_eq_left', Option.some.injEq]
      exact hN _ rfl
    rintro S rfl
    refine seq_cut (fun S => S = [.un, .rng a c, .im (eH h), .im (.int (F : Int)), .im (.int 0), .im (.int (M : Int)), .im (eL q), .im (eH gE)]) (fun Nx hN => ?_) ?_
    · simp only [w_law_12, bl?, g2, gAdd, gDiv, gEq, gGe, gGt, gI, gIn, gInt, gIs, gIsNot, gLe, gLen, gList, gLt, gMM, gMod, gMul, gMulS, gNe, gNotIn, gPow, gSorted, gSub, gIadd, gSum, gTuple, puts, sV, sVs, slotM, wAnd, wApp, wAsg, wAug, wAugI, wB, wC, wCall, wCallR, wChain, wCons, wDraw, wDrop, wEnL, wEnT, wExt, wFn, wFnO, wFor, wGCons, wGNil, wGT, wIL, wIT, wIdx, wIf, wIfS, wIsi, wIx, wLc, wLst, wMNil, wMO, wMV, wMix, wN, wNeg, wNil, wNot, wNotT, wO, wOp, wOr, wOwn, wPar, wR1, wR2, wRaise, wRaiseF, wRet, wSeq, wSet, wSetI, wSkip, wTAnd, wTNot, wTOr, wTru, wTry, wTryF, wTup, wV, wYes, wSplit, wJoin, wRstrip, wFmt, wJNil, wJCons, wJs, gStr, gIntS, wIS, gSignNotIn, wSl, wSlt, wPn, wPs, gMulT, wGL, wTryAs, wXf, wXis, wCat, wCatV, wIxV, wDGet, wDIn, wDInT, wDGet2, wDPut, wDisp1, wOwnD, wMD, wForD, wLcD, wFz, wMv, wMinD, gListD, fzS, wDK, wDT, wFldO, wFldS, wMeth, wProp, wLenO, wCallO, wMake, wNewOb, wNewObL, wMethC, gLenD, wDGetV, wPopS, wUpd, wLV, wLI, wForIt, wSortSet, wCallIx, gSortedT, wTabIx, wTree, wForChg, messSlot, wSortLam, wAsgO, startS, List.length_cons, List.length_nil, List.map_cons, List.map_nil, List.getElem?_cons_zero, List.getElem?_cons_succ, List.set_cons_zero, List.set_cons_succ, List.cons_append, List.nil_append, List.append_nil, List.replicate_succ, List.replicate_zero, Nat.reduceAdd, Nat.reduceSub, ↓reduceIte, Bool.false_eq_true, reduceCtorEq, true_and, and_true, true_or, or_true, false_or, or_false, Bool.not_true, Bool.not_false, Bool.true_and, Bool.false_and, Bool.and_true, decide_eq_true_eq, Bool.not_eq_eq_eq_not, exists_eq_left, exists_eq_left', Option.some.injEq]
      exact gone_use l6 r1.ru (hN _ rfl)
    rintro S rfl
    have lp := r1.le F hF
    rw [hM] at lp
    have lg := runs_len r1.ru
    have m1 : (q.length : Int) ≤ ((M * h.length : Nat) : Int) := by omega
    simp only [w_law_13, bl?, g2, gAdd, gDiv, gEq, gGe, gGt, gI, gIn, gInt, gIs, gIsNot, gLe, gLen, gList, gLt, gMM, gMod, gMul, gMulS, gNe, gNotIn, gPow, gSorted, gSub, gIadd, gSum, gTuple, puts, sV, sVs, slotM, wAnd, wApp, wAsg, wAug, wAugI, wB, wC, wCall, wCallR, wChain, wCons, wDraw, wDrop, wEnL, wEnT, wExt, wFn, wFnO, wFor, wGCons, wGNil, wGT, wIL, wIT, wIdx, wIf, wIfS, wIsi, wIx, wLc, wLst, wMNil, wMO, wMV, wMix, wN, wNeg, wNil, wNot, wNotT, wO, wOp, wOr, wOwn, wPar, wR1, wR2, wRaise, wRaiseF, wRet, wSeq, wSet, wSetI, wSkip, wTAnd, wTNot, wTOr, wTru, wTry, wTryF, wTup, wV, wYes, wSplit, wJoin, wRstrip, wFmt, wJNil, wJCons, wJs, gStr, gIntS, wIS, gSignNotIn, wSl, wSlt, wPn, wPs, gMulT, wGL, wTryAs, wXf, wXis, wCat, wCatV, wIxV, wDGet, wDIn, wDInT, wDGet2, wDPut, wDisp1, wOwnD, wMD, wForD, wLcD, wFz, wMv, wMinD, gListD, fzS, wDK, wDT, wFldO, wFldS, wMeth, wProp, wLenO, wCallO, wMake, wNewOb, wNewObL, wMethC, gLenD, wDGetV, wPopS, wUpd, wLV, wLI, wForIt, wSortSet, wCallIx, gSortedT, wTabIx, wTree, wForChg, messSlot, wSortLam, wAsgO, startS, List.length_cons, List.length_nil, List.map_cons, List.map_nil, List.getElem?_cons_zero, List.getElem?_cons_succ, List.set_cons_zero, List.set_cons_succ, List.cons_append, List.nil_append, List.append_nil, List.replicate_succ, List.replicate_zero, Nat.reduceAdd, Nat.reduceSub, ↓reduceIte, Bool.false_eq_true, reduceCtorEq, true_and, and_true, true_or, or_true, false_or, or_false, Bool.not_true, Bool.not_false, Bool.true_and, Bool.false_and, Bool.and_true, decide_eq_true_eq, Bool.not_eq_eq_eq_not, exists_eq_left, exists_eq_left', Option.some.injEq, eH, eL, len_eL, len_eH, eK]
    refine lfull_use (by omega) ?_
    have f1 : ((full gE : Nat) : Int) = 1 := by rw [r1.fu]; rfl
    simp only [f1, shaped_int, eqv_int, decide_true, startS, List.length_cons, List.length_nil, List.map_cons, List.map_nil, List.getElem?_cons_zero, List.getElem?_cons_succ, List.set_cons_zero, List.set_cons_succ, List.cons_append, List.nil_append, List.append_nil, List.replicate_succ, List.replicate_zero, Nat.reduceAdd, Nat.reduceSub, ↓reduceIte, Bool.false_eq_true, reduceCtorEq, true_and, and_true, true_or, or_true, false_or, or_false, Bool.not_true, Bool.not_false, Bool.true_and, Bool.false_and, Bool.and_true, decide_eq_true_eq, Bool.not_eq_eq_eq_not, exists_eq_left, exists_eq_left', Option.some.injEq, eL, len_eL, len_eH, eK, m1]
    exact hK
end Pu


namespace Pu
open PySem L2
def top (i : Nat) : Stmt := PySem.Challenge.pw_heapsdouble_k04_whole_plans_that_empty.main.body.getD i (.Pass ⟨0, 0, 0, 0⟩)
def inC (st : Stmt) (i : Nat) : Stmt := match st with
  | .ClassDef _ _ _ b _ _ _ _ _ _ _ => b.getD i (.Pass ⟨0, 0, 0, 0⟩)
  | st => st
structure Txt [Tbs] (K : PySem.W.Frag) (mg : Str → Option Value) (base : Heap) : Prop where
  f_law_full : ∃ (f : Addr) (fd : FuncData), Fun K "_law_full" "_law_full" (top 35) f fd ∧ mg "_law_full" = some (.ref f)
  f_law_behind : ∃ (f : Addr) (fd : FuncData), Fun K "_law_behind" "_law_behind" (top 29) f fd ∧ mg "_law_behind" = some (.ref f)
  f_law_can : ∃ (f : Addr) (fd : FuncData), Fun K "_law_can" "_law_can" (top 28) f fd ∧ mg "_law_can" = some (.ref f)
  f_law_pairs : ∃ (f : Addr) (fd : FuncData), Fun K "_law_pairs" "_law_pairs" (top 30) f fd ∧ mg "_law_pairs" = some (.ref f)
  f_law_gone : ∃ (f : Addr) (fd : FuncData), Fun K "_law_gone" "_law_gone" (top 31) f fd ∧ mg "_law_gone" = some (.ref f)
  f_law_part : ∃ (f : Addr) (fd : FuncData), Fun K "_law_part" "_law_part" (top 32) f fd ∧ mg "_law_part" = some (.ref f)
  f_law_odd : ∃ (f : Addr) (fd : FuncData), Fun K "_law_odd" "_law_odd" (top 33) f fd ∧ mg "_law_odd" = some (.ref f)
  f_law_heaps : ∃ (f : Addr) (fd : FuncData), Fun K "_law_heaps" "_law_heaps" (top 27) f fd ∧ mg "_law_heaps" = some (.ref f)
  f_law_some : ∃ (f : Addr) (fd : FuncData), Fun K "_law_some" "_law_some" (top 34) f fd ∧ mg "_law_some" = some (.ref f)
  f_is_integer : ∃ (f : Addr) (fd : FuncData), Fun K "is_integer" "is_integer" (top 7) f fd ∧ mg "is_integer" = some (.ref f)
  f_is_from : ∃ (f : Addr) (fd : FuncData), Fun K "is_from" "is_from" (top 8) f fd ∧ mg "is_from" = some (.ref f)
  f_check_heaps : ∃ (f : Addr) (fd : FuncData), Fun K "check_heaps" "check_heaps" (top 9) f fd ∧ mg "check_heaps" = some (.ref f)
  f_behind : ∃ (f : Addr) (fd : FuncData), Fun K "behind" "behind" (top 10) f fd ∧ mg "behind" = some (.ref f)
  f_round_of : ∃ (f : Addr) (fd : FuncData), Fun K "round_of" "round_of" (top 18) f fd ∧ mg "round_of" = some (.ref f)
  f_emptied : ∃ (f c q : Addr) (fd : FuncData), Fun K "emptied" "emptied" (top 19) f fd ∧ mg "emptied" = some (.ref f) ∧ fd.code = .ref c ∧ LamX.TabB base mg c q ∧ (q, (("emptied" : Str) ++ ".<locals>." ++ "<lambda>")) ∈ Tbs.T ∧ ∀ p ∈ Tbs.T, p.1 = q → p.2 = (("emptied" : Str) ++ ".<locals>." ++ "<lambda>")
  f_full_places : ∃ (f c q : Addr) (fd : FuncData), Fun K "full_places" "full_places" (top 17) f fd ∧ mg "full_places" = some (.ref f) ∧ fd.code = .ref c ∧ LamX.TabB base mg c q ∧ (q, (("full_places" : Str) ++ ".<locals>." ++ "<lambda>")) ∈ Tbs.T ∧ ∀ p ∈ Tbs.T, p.1 = q → p.2 = (("full_places" : Str) ++ ".<locals>." ++ "<lambda>")
  f_empty_plan : ∃ (f : Addr) (fd : FuncData), Fun K "empty_plan" "empty_plan" (top 20) f fd ∧ mg "empty_plan" = some (.ref f)
  f_common : ∃ (f : Addr) (fd : FuncData), Fun K "common" "common" (top 12) f fd ∧ mg "common" = some (.ref f)
  f_odd_of : ∃ (f : Addr) (fd : FuncData), Fun K "odd_of" "odd_of" (top 14) f fd ∧ mg "odd_of" = some (.ref f)
  f_odd_by : ∃ (f : Addr) (fd : FuncData), Fun K "odd_by" "odd_by" (top 15) f fd ∧ mg "odd_by" = some (.ref f)
  f_odd_part : ∃ (f : Addr) (fd : FuncData), Fun K "odd_part" "odd_part" (top 16) f fd ∧ mg "odd_part" = some (.ref f)
  f_pair_steps : ∃ (f : Addr) (fd : FuncData), Fun K "pair_steps" "pair_steps" (top 21) f fd ∧ mg "pair_steps" = some (.ref f)
  f_one_plan : ∃ (f : Addr) (fd : FuncData), Fun K "one_plan" "one_plan" (top 23) f fd ∧ mg "one_plan" = some (.ref f)
  f_pair_plan : ∃ (f : Addr) (fd : FuncData), Fun K "pair_plan" "pair_plan" (top 22) f fd ∧ mg "pair_plan" = some (.ref f)
  f_law : ∃ (f : Addr) (fd : FuncData), Fun K "law" "law" (top 36) f fd ∧ mg "law" = some (.ref f)
  f_law_mix : ∃ (f : Addr) (fd : FuncData), Fun K "_law_mix" "_law_mix" (top 25) f fd ∧ mg "_law_mix" = some (.ref f)
  f_law_next : ∃ (f : Addr) (fd : FuncData), Fun K "_law_next" "_law_next" (top 26) f fd ∧ mg "_law_next" = some (.ref f)
  b_bool : mg "bool" = none
  b_enumerate : mg "enumerate" = none
  b_int : mg "int" = none
  b_isinstance : mg "isinstance" = none
  b_len : mg "len" = none
  b_list : mg "list" = none
  b_max : mg "max" = none
  b_min : mg "min" = none
  b_range : mg "range" = none
  b_sorted : mg "sorted" = none
  b_sum : mg "sum" = none
  b_tuple : mg "tuple" = none
  c_LEAST_HEAPS : ∃ t, mg "LEAST_HEAPS" = some (.int 2 t)
  c_MOST_HEAPS : ∃ t, mg "MOST_HEAPS" = some (.int 6 t)
  c_MOST_IN_HEAP : ∃ t, mg "MOST_IN_HEAP" = some (.int 1000000000000000000000000000000 t)
  r_BadHeaps : RaiseC K mg "BadHeaps"
section
variable [Tbs] {P : Program} {w : World} {K : PySem.W.Frag} {mg : Str → Option Value} {base : Heap}
theorem sc_next : FnScope ["_law_h", "_law_bound", "_law_cell", "_law_cells"] ["_law_h", "_law_bound"] (defScope (top 26)) := ⟨rfl, rfl, rfl, by decide +kernel, rfl, by decide +kernel, by decide +kernel⟩
theorem ok_next {f : Addr} {fd : FuncData} {k : Nat} (T : Txt K mg base) (F : Fun K "_law_next" "_law_next" (top 26) f fd) : FnOk P w K mg base (L2.CX P w) (k + 1) f fd ["_law_h", "_law_bound"] spNext := by
  refine F.okX sc_next (fun vs H Q E h => by obtain ⟨a, c, n, rfl, _⟩ := h; rfl) (fun cdv A outer s H vs Q E hr h => ?_)
  obtain ⟨a, c, n, rfl, hac, ⟨st, ix, ns, h1, h2, h3⟩, n1, n2, q⟩ := h
  have nd := sc_next.nd
  have e31 : (10 : Int) ^ 31 = 10000000000000000000000000000000 := by decide
  have e110 : (2 : Nat) ^ 110 = 1298074214633706907132624082305024 := by decide
  have hn : n.natAbs < 2 ^ 110 := by rw [e110]; rw [e31] at n2; omega
  refine ⟨_, pss_cons (ps_set (i := 2) nd rfl (.inl rfl) (pe_ix ix_seq (pe_op op_cat (pe_ix ix_seq (pe_var (i := 0) rfl (.inl rfl)) pe_int (fun _ _ => rfl)) (pe_lst (pa_cons pe_int pa_nil)))
      (pe_op op_modN (pe_callTy call_int1 rfl T.b_int bt_int (pa_cons (pe_ix ix_seq (pe_var (i := 0) rfl (.inl rfl)) pe_int (fun _ _ => rfl)) pa_nil)) (pe_callB (call_max2 rfl) rfl T.b_max bb_max (pa_cons pe_int (pa_cons (pe_callB call_len rfl T.b_len bb_len (pa_cons (pe_ix ix_seq (pe_var (i := 0) rfl (.inl rfl)) pe_int (fun _ _ => rfl)) pa_nil)) pa_nil)))) (fun _ _ => rfl)))
    (pss_cons (ps_if (pt_cmpR op_ge (pe_var (i := 2) rfl (.inl rfl)) (pe_op op_pow pe_int pe_int) (by first | exact nobehind _ (by decide) (by decide) | rfl))
      (pss_cons (ps_set (i := 3) nd rfl (.inl rfl) (pe_ix ix_seq (pe_var (i := 0) rfl (.inl rfl)) pe_int (fun _ _ => rfl)))
        (pss_cons (ps_asg (pe_op op_fdivW (pe_var (i := 2) rfl (.inl rfl)) (pe_var (i := 1) rfl (.inl rfl))) (pg_sub (pe_var (i := 3) rfl (.inl rfl)) (pe_op op_modN (pe_callTy call_int1 rfl T.b_int bt_int (pa_cons (pe_ix ix_seq (pe_var (i := 0) rfl (.inl rfl)) pe_int (fun _ _ => rfl)) pa_nil)) (pe_callB call_len rfl T.b_len bb_len (pa_cons (pe_var (i := 3) rfl (.inl rfl)) pa_nil))) set_list (by intro _; rfl)) rfl rfl rfl)
          (pss_one (ps_ret (pe_op op_modN (pe_callTy call_int1 rfl T.b_int bt_int (pa_cons (pe_var (i := 2) rfl (.inl rfl)) pa_nil)) (pe_var (i := 1) rfl (.inl rfl)))))))
      pss_nil)
    (pss_cons (ps_asg (pe_op op_modN (pe_callTy call_int1 rfl T.b_int bt_int (pa_cons (pe_op op_add (pe_op op_add (pe_op op_mul (pe_ix ix_seq (pe_var (i := 0) rfl (.inl rfl)) pe_int (fun _ _ => rfl)) pe_int) (pe_op op_mul (pe_var (i := 2) rfl (.inl rfl)) pe_int)) pe_int) pa_nil)) pe_int) (pg_sub (pe_var (i := 0) rfl (.inl rfl)) pe_int set_list (by intro _; rfl)) rfl rfl rfl)
      (pss_cons (ps_asg (pe_op op_add (pe_ix ix_seq (pe_var (i := 0) rfl (.inl rfl)) pe_int (fun _ _ => rfl)) pe_int) (pg_sub (pe_var (i := 0) rfl (.inl rfl)) pe_int set_list (by intro _; rfl)) rfl rfl rfl)
        (pss_one (ps_ret (pe_op op_modN (pe_callTy call_int1 rfl T.b_int bt_int (pa_cons (pe_op op_fdiv (pe_ix ix_seq (pe_var (i := 0) rfl (.inl rfl)) pe_int (fun _ _ => rfl)) pe_int) pa_nil)) (pe_var (i := 1) rfl (.inl rfl)))))))), ?_⟩
  refine ⟨.ref a, rfl, .inl ⟨a, _, 1, .ref c, rfl, rfl, SqL.at h1, rfl, ?_⟩⟩
  refine ⟨by decide, fun p hp => ⟨c, p, ns.map .int, [.int 0], rfl, rfl, ?_, upd_same, ?_, fun p2 hp2 => ?_⟩⟩
  · rw [upd_ne (ne_of_none h2 hp)]; exact h2
  · rw [List.length_map, sizeLine_eq]; simp; omega
  have k1 : But a c H (upd (upd H p (.lst [.int 0])) p2 (.lst (ns.map .int ++ [.int 0]))) := fun b u _ _ e => by
    have e1 : upd H p (.lst [.int 0]) b = some u := by rw [upd_ne (ne_of_none e hp)]; exact e
    rw [upd_ne (ne_of_none e1 hp2)]; exact e1
  have ga : upd (upd H p (.lst [.int 0])) p2 (.lst (ns.map .int ++ [.int 0])) a = some (.lst [.int st, .ref c, .int ix]) := by
    have e1 : upd H p (.lst [.int 0]) a = _ := (upd_ne (ne_of_none h1 hp)).trans h1
    rw [upd_ne (ne_of_none e1 hp2)]; exact e1
  have gc : upd (upd H p (.lst [.int 0])) p2 (.lst (ns.map .int ++ [.int 0])) c = some (.lst (ns.map .int)) := by
    have e1 : upd H p (.lst [.int 0]) c = _ := (upd_ne (ne_of_none h2 hp)).trans h2
    rw [upd_ne (ne_of_none e1 hp2)]; exact e1
  have gp : upd (upd H p (.lst [.int 0])) p2 (.lst (ns.map .int ++ [.int 0])) p2 = some (.lst ((ns ++ [0]).map .int)) := by
    rw [upd_same, List.map_append]; rfl
  generalize upd (upd H p (.lst [.int 0])) p2 (.lst (ns.map .int ++ [.int 0])) = G at k1 ga gc gp
  refine ⟨.ref a, rfl, .inl ⟨a, _, 2, .int ix, rfl, rfl, SqL.at ga, rfl, .inl ⟨ix, rfl, ?_⟩⟩⟩
  refine ⟨.ref a, rfl, .inl ⟨a, _, 1, .ref c, rfl, rfl, SqL.at ga, rfl, ?_⟩⟩
  refine ⟨_, (ns.map V.int).length, rfl, .inl ⟨_, SqL.at gc, rfl⟩, 1, _, rfl, ?_⟩
  have hM : (1 : Int) ≤ (if ((ns.map V.int).length : Int) > 1 then ((ns.map V.int).length : Int) else 1) := by split <;> omega
  have hM2 : (if ((ns.map V.int).length : Int) > 1 then ((ns.map V.int).length : Int) else 1) ≤ ((ns ++ [0]).length : Int) := by
    rw [List.length_append, List.length_map]; simp only [List.length_cons, List.length_nil]; split <;> omega
  generalize (if ((ns.map V.int).length : Int) > 1 then ((ns.map V.int).length : Int) else 1) = M at hM hM2
  refine ⟨ix, M, rfl, rfl, by omega, ?_⟩
  obtain ⟨f1, f2⟩ := fmod_in (i := ix) hM
  obtain ⟨cell, ec, mc⟩ := at_ints (l := ns ++ [0]) f1 (by omega)
  refine .inl ⟨p2, _, _, .int cell, rfl, rfl, SqL.at gp, ec, ?_⟩
  refine ⟨_, rfl, 10, 18, rfl, rfl, ⟨by decide, by decide, by decide⟩, cell, _, rfl, rfl, ?_⟩
  have h18 : ((10 : Int) ^ (18 : Int).toNat) = 1000000000000000000 := by decide
  refine ⟨_, rfl, ?_⟩
  by_cases hb : (10 : Int) ^ (18 : Int).toNat ≤ cell
  · refine Eq.mpr (if_pos (decide_eq_true hb)) ?_
    rw [h18] at hb
    have hz : cell ≠ 0 := by omega
    have mc' : cell ∈ ns := by
      rcases List.mem_append.mp mc with z | z
      · exact z
      · exact absurd (List.mem_singleton.mp z) hz
    have hl : 0 < ns.length := List.length_pos_of_mem mc'
    refine ⟨.ref a, rfl, .inl ⟨a, _, 1, .ref c, rfl, rfl, SqL.at ga, rfl, ?_⟩⟩
    refine ⟨_, rfl, _, rfl, cell, n, rfl, rfl, wide_div (b := 110) (by omega) hn (by decide) (by decide), ?_⟩
    refine ⟨.ref c, rfl, .ref a, rfl, .inl ⟨a, _, 2, .int ix, rfl, rfl, SqL.at ga, rfl, .inl ⟨ix, rfl, ?_⟩⟩⟩
    refine ⟨.ref c, rfl, _, (ns.map V.int).length, rfl, .inl ⟨_, SqL.at gc, rfl⟩, ix, _, rfl, rfl, ?_, ?_⟩
    · rw [List.length_map]; omega
    obtain ⟨g1, g2⟩ := fmod_in (i := ix) (j := ((ns.map V.int).length : Int)) (by rw [List.length_map]; omega)
    obtain ⟨j, ej⟩ := Int.eq_ofNat_of_zero_le g1
    have hj : j < (ns.map V.int).length := by omega
    refine ⟨c, ns.map V.int, _, j, rfl, rfl, gc, by rw [ej]; exact ixN_nat hj, ?_⟩
    refine ⟨_, rfl, .inl ⟨cell, rfl, _, rfl, cell, n, rfl, rfl, by omega, ?_⟩⟩
    obtain ⟨r1, r2⟩ := fmod_in (i := cell) n1
    refine q _ _ r1 r2 (fun b u b1 b2 e => ?_) ⟨st, ix, ns.set j (cell / n), ?_, ?_, by rw [List.length_set]; exact h3⟩
    · rw [upd_ne b2]; exact k1 b u b1 b2 e
    · rw [upd_ne hac]; exact ga
    · rw [upd_same, List.map_set]
  · refine Eq.mpr (if_neg (by rw [decide_eq_false hb]; exact Bool.false_ne_true)) ?_
    refine ⟨.ref a, rfl, .inl ⟨a, _, 0, .int st, rfl, rfl, SqL.at ga, rfl, st, 48271, rfl, rfl, .inr ⟨by decide, by decide⟩, ?_⟩⟩
    refine ⟨_, rfl, cell, 69621, rfl, rfl, .inr ⟨by decide, by decide⟩, _, _, rfl, rfl, _, _, rfl, rfl, .inl ⟨_, rfl, _, _, rfl, rfl, show (2147483647 : Int) ≠ 0 by decide, ?_⟩⟩
    refine ⟨.ref a, rfl, a, _, 0, 0, rfl, rfl, ga, rfl, ?_⟩
    refine ⟨.ref a, rfl, .inl ⟨a, _, 2, .int ix, rfl, rfl, SqL.at upd_same, rfl, ix, 1, rfl, rfl, ?_⟩⟩
    refine ⟨.ref a, rfl, a, _, 2, 2, rfl, rfl, upd_same, rfl, ?_⟩
    refine ⟨.ref a, rfl, .inl ⟨a, _, 0, _, rfl, rfl, SqL.at upd_same, rfl, _, 7, rfl, rfl, ⟨by decide, by decide⟩, .inl ⟨_, rfl, _, rfl, _, n, rfl, rfl, by omega, ?_⟩⟩⟩
    obtain ⟨r1, r2⟩ := fmod_in (i := ((st * 48271 + cell * 69621 + 11).fmod 2147483647) / 7) n1
    refine q _ _ r1 r2 (fun b u b1 b2 e => ?_) ⟨_, _, ns, upd_same, ?_, h3⟩
    · rw [upd_ne b1, upd_ne b1]; exact k1 b u b1 b2 e
    · rw [upd_ne (Ne.symm hac), upd_ne (Ne.symm hac)]; exact gc
theorem sc_mix : FnScope ["_law_script", "_law_seed", "_law_state", "_law_cell"] ["_law_script", "_law_seed"] (defScope (top 25)) := ⟨rfl, rfl, rfl, by decide +kernel, rfl, by decide +kernel, by decide +kernel⟩
theorem ok_mix {f : Addr} {fd : FuncData} {k : Nat} (T : Txt K mg base) (F : Fun K "_law_mix" "_law_mix" (top 25) f fd) : FnOk P w K mg base (L2.CX P w) (k + 1) f fd ["_law_script", "_law_seed"] (spMix K) := by
  refine F.okX sc_mix (fun vs H Q E h => by obtain ⟨a, ns, seed, rfl, _⟩ := h; rfl) (fun cdv A outer s H vs Q E hr h => ?_)
  obtain ⟨a, ns, seed, rfl, h1, h2, q⟩ := h
  have nd := sc_mix.nd
  refine ⟨_, pss_cons (ps_set (i := 2) nd rfl (.inl rfl) (pe_var (i := 1) rfl (.inl rfl)))
    (pss_cons (ps_for (passes_of rfl) rfl (pi_list (pe_var (i := 0) rfl (.inl rfl))) (pg_name (i := 3) nd rfl (.inl rfl) (.inl rfl))
      (pss_one (ps_set (i := 2) nd rfl (.inl rfl) (pe_op op_modN (pe_callTy call_int1 rfl T.b_int bt_int (pa_cons (pe_op op_add (pe_op op_add (pe_op op_mul (pe_var (i := 2) rfl (.inl rfl)) pe_int) (pe_op op_modN (pe_callTy call_int1 rfl T.b_int bt_int (pa_cons (pe_var (i := 3) rfl (.inl rfl)) pa_nil)) pe_int)) pe_int) pa_nil)) pe_int))) (by intro _; rfl))
    (pss_one (ps_ret (pe_lst (pa_cons (pe_var (i := 2) rfl (.inl rfl)) (pa_cons (pe_callTy call_list_of rfl T.b_list bt_list (pa_cons (pe_var (i := 0) rfl (.inl rfl)) pa_nil)) (pa_cons pe_int pa_nil))))))), ?_⟩
  refine ⟨.int seed, rfl, .ref a, rfl, a, rfl, ⟨_, h1⟩, ?_⟩
  refine ⟨fun i m σ H' => m = ns.length - i ∧ i ≤ ns.length ∧ H' = H ∧ ∃ (z : Int) (u : Option V), σ = [some (.ref a), some (.int seed), some (.int z), u], ⟨ns.length, by simp, Nat.zero_le _, rfl, seed, none, rfl⟩, ?_⟩
  rintro i m σ' H' ⟨rfl, hi, rfl, z, u, rfl⟩
  by_cases hlt : i < ns.length
  · right
    have hx : (ns.map V.int)[i]? = some (.int ns[i]) := by rw [List.getElem?_map, List.getElem?_eq_getElem hlt]; rfl
    refine ⟨⟨_, _, h1, hx⟩, fun σ' H2 => i + 1 ≤ ns.length ∧ H2 = H' ∧ ∃ (z : Int) (u : Option V), σ' = [some (.ref a), some (.int seed), some (.int z), u], fun σ2 H2 ⟨q1, q2, q3⟩ => ⟨ns.length - (i + 1), by omega, rfl, q1, q2, q3⟩, fun x H2 hy => ?_⟩
    obtain ⟨rfl, hy⟩ := hy
    have e := hy _ h1
    rw [hx] at e
    cases e
    refine ⟨.int z, rfl, z, 48271, rfl, rfl, .inr ⟨by decide, by decide⟩, _, rfl, .inl ⟨_, rfl, _, 2147483629, rfl, rfl, show (2147483629 : Int) ≠ 0 by decide, ?_⟩⟩
    refine ⟨_, _, rfl, rfl, _, _, rfl, rfl, .inl ⟨_, rfl, _, 2147483647, rfl, rfl, show (2147483647 : Int) ≠ 0 by decide, ?_⟩⟩
    exact ⟨hlt, rfl, _, _, rfl⟩
  · left
    refine ⟨⟨_, h1, by rw [List.length_map]; omega⟩, ?_⟩
    refine ⟨.int z, rfl, .ref a, rfl, a, _, rfl, .inl h1, fun c hc => ⟨show 3 ≤ sizeLine by decide, fun p hp => ?_⟩⟩
    have nec : p ≠ c := fun e => by rw [e, upd_same] at hp; cases hp
    have hp0 : H' p = none := by rw [upd_ne nec] at hp; exact hp
    refine q p c _ hp0 hc nec (Lh.of fun b u e => ?_) ⟨z, 0, ns, upd_same, ?_, h2⟩
    · have b1 := ne_of_none e hc
      have b2 := ne_of_none e hp0
      rw [upd_ne b2, upd_ne b1]; exact e
    · rw [upd_ne (Ne.symm nec), upd_same]
theorem D_law_next (T : Txt K mg base) : Def P w K mg base 1 "_law_next" 2 spNext := by
  obtain ⟨f, fd, F, hm⟩ := T.f_law_next
  exact ⟨f, fd, _, ok_next (k := 0) T F, hm, F.kp, F.binds (ps := ["_law_h", "_law_bound"]) fun _ _ _ _ _ _ us hl => match us, hl with | [_, _], _ => rfl, rfl⟩
theorem D_law_mix (T : Txt K mg base) : Def P w K mg base 1 "_law_mix" 2 (spMix K) := by
  obtain ⟨f, fd, F, hm⟩ := T.f_law_mix
  exact ⟨f, fd, _, ok_mix (k := 0) T F, hm, F.kp, F.binds (ps := ["_law_script", "_law_seed"]) fun _ _ _ _ _ _ us hl => match us, hl with | [_, _], _ => rfl, rfl⟩
theorem sc_law_full : FnScope ["_law_heaps_here", "_law_x"] ["_law_heaps_here"] (defScope (top 35)) := ⟨rfl, rfl, rfl, by decide +kernel, rfl, by decide +kernel, by decide +kernel⟩
theorem ok_law_full (T : Txt K mg base) {f : Addr} {fd : FuncData} (F : Fun K "_law_full" "_law_full" (top 35) f fd) : FnOk P w K mg base (L2.CX P w) 1 f fd ["_law_heaps_here"] (spOf mg 1 sp_law_full) := by
  refine def_ok (k := 0) F sc_law_full fun cdv A outer s H E a => ⟨w_law_full, ?_, pure_law_full⟩
  exact (sss_one (ss_ret (se_fb f_len T.b_len bb_len (sa_cons (se_o (so_lc (own := [("_law_x", 1)]) a (si_t (se_v 0)) (by kernel_rfl) (fun _ _ _ _ _ => (sg_n 1 a.nd)) (fun _ _ _ _ _ a1 => (sts_one (st_cmp o_gt (se_v 1) se_int))) (fun _ _ _ _ _ a1 => (se_v 1)) (by decide))) sa_nil))))
theorem D_law_full (T : Txt K mg base) : Def P w K mg base 1 "_law_full" 1 (spOf mg 1 sp_law_full) := by
  obtain ⟨f, fd, F, hm⟩ := T.f_law_full
  exact ⟨f, fd, _, ok_law_full T F, hm, F.kp, F.binds (ps := ["_law_heaps_here"]) fun _ _ _ _ _ _ us hl => match us, hl with | [_], _ => rfl, rfl⟩
theorem sc_law_behind : FnScope ["_law_heaps_here", "_law_step", "_law_row"] ["_law_heaps_here", "_law_step"] (defScope (top 29)) := ⟨rfl, rfl, rfl, by decide +kernel, rfl, by decide +kernel, by decide +kernel⟩
theorem ok_law_behind (T : Txt K mg base) {f : Addr} {fd : FuncData} (F : Fun K "_law_behind" "_law_behind" (top 29) f fd) : FnOk P w K mg base (L2.CX P w) 1 f fd ["_law_heaps_here", "_law_step"] (spOf mg 2 sp_law_behind) := by
  refine def_ok (k := 0) F sc_law_behind fun cdv A outer s H E a => ⟨w_law_behind, ?_, pure_law_behind⟩
  exact (sss_cons (ss_own 2 a (so_ft fo_list T.b_list bt_list (sa_cons (se_v 0) sa_nil)))
    (sss_cons (ss_setI 2 (se_op o_sub (se_ix (se_v 2) (se_ix (se_v 1) se_int)) (se_ix (se_v 0) (se_ix (se_v 1) se_int))) (se_ix (se_v 1) se_int))
    (sss_cons (ss_setI 2 (se_op o_add (se_ix (se_v 2) (se_ix (se_v 1) se_int)) (se_ix (se_v 0) (se_ix (se_v 1) se_int))) (se_ix (se_v 1) se_int))
    (sss_one (ss_ret (se_ft f_tuple T.b_tuple bt_tuple (sa_cons (se_v 2) sa_nil)))))))
theorem D_law_behind (T : Txt K mg base) : Def P w K mg base 1 "_law_behind" 2 (spOf mg 2 sp_law_behind) := by
  obtain ⟨f, fd, F, hm⟩ := T.f_law_behind
  exact ⟨f, fd, _, ok_law_behind T F, hm, F.kp, F.binds (ps := ["_law_heaps_here", "_law_step"]) fun _ _ _ _ _ _ us hl => match us, hl with | [_, _], _ => rfl, rfl⟩
theorem sc_law_can : FnScope ["_law_heaps_here", "_law_step"] ["_law_heaps_here", "_law_step"] (defScope (top 28)) := ⟨rfl, rfl, rfl, by decide +kernel, rfl, by decide +kernel, by decide +kernel⟩
theorem ok_law_can (T : Txt K mg base) {f : Addr} {fd : FuncData} (F : Fun K "_law_can" "_law_can" (top 28) f fd) : FnOk P w K mg base (L2.CX P w) 1 f fd ["_law_heaps_here", "_law_step"] (spOf mg 2 sp_law_can) := by
  refine def_ok (k := 0) F sc_law_can fun cdv A outer s H E a => ⟨w_law_can, ?_, pure_law_can⟩
  exact (sss_one (ss_ret (se_chain o_lt o_le se_int (se_ix (se_v 0) (se_ix (se_v 1) se_int)) (se_ix (se_v 0) (se_ix (se_v 1) se_int)))))
theorem D_law_can (T : Txt K mg base) : Def P w K mg base 1 "_law_can" 2 (spOf mg 2 sp_law_can) := by
  obtain ⟨f, fd, F, hm⟩ := T.f_law_can
  exact ⟨f, fd, _, ok_law_can T F, hm, F.kp, F.binds (ps := ["_law_heaps_here", "_law_step"]) fun _ _ _ _ _ _ us hl => match us, hl with | [_, _], _ => rfl, rfl⟩
theorem sc_law_pairs : FnScope ["_law_size", "_law_found", "_law_one", "_law_other"] ["_law_size"] (defScope (top 30)) := ⟨rfl, rfl, rfl, by decide +kernel, rfl, by decide +kernel, by decide +kernel⟩
theorem ok_law_pairs (T : Txt K mg base) {f : Addr} {fd : FuncData} (F : Fun K "_law_pairs" "_law_pairs" (top 30) f fd) : FnOk P w K mg base (L2.CX P w) 1 f fd ["_law_size"] (spOf mg 1 sp_law_pairs) := by
  refine def_ok (k := 0) F sc_law_pairs fun cdv A outer s H E a => ⟨w_law_pairs, ?_, pure_law_pairs⟩
  exact (sss_cons (ss_set 1 a (se_o (so_lst sa_nil)))
    (sss_cons (ss_for a (si_r1 T.b_range (sa_cons (se_v 0) sa_nil)) (sg_n 2 a.nd) (sss_one (ss_set 1 a (se_op o_add (se_v 1) (se_o (so_lc (own := [("_law_other", 3)]) a (si_r1 T.b_range (sa_cons (se_v 0) sa_nil)) (by kernel_rfl) (fun _ _ _ _ _ => (sg_n 3 a.nd)) (fun _ _ _ _ _ a1 => (sts_one (st_cmp (o_ne a1) (se_v 3) (se_v 2)))) (fun _ _ _ _ _ a1 => (se_tup (sa_cons (se_v 2) (sa_cons (se_v 3) sa_nil)))) (by decide)))))))
    (sss_one (ss_ret (se_v 1)))))
theorem D_law_pairs (T : Txt K mg base) : Def P w K mg base 1 "_law_pairs" 1 (spOf mg 1 sp_law_pairs) := by
  obtain ⟨f, fd, F, hm⟩ := T.f_law_pairs
  exact ⟨f, fd, _, ok_law_pairs T F, hm, F.kp, F.binds (ps := ["_law_size"]) fun _ _ _ _ _ _ us hl => match us, hl with | [_], _ => rfl, rfl⟩
theorem sc_law_gone : FnScope ["_law_heaps_here", "_law_plan", "_law_pairs_here", "_law_step"] ["_law_heaps_here", "_law_plan"] (defScope (top 31)) := ⟨rfl, rfl, rfl, by decide +kernel, rfl, by decide +kernel, by decide +kernel⟩
theorem ok_law_gone (T : Txt K mg base) {f : Addr} {fd : FuncData} (F : Fun K "_law_gone" "_law_gone" (top 31) f fd) : FnOk P w K mg base (L2.CX P w) 2 f fd ["_law_heaps_here", "_law_plan"] (spOf mg 2 sp_law_gone) := by
  refine def_ok (k := 1) F sc_law_gone fun cdv A outer s H E a => ⟨w_law_gone, ?_, pure_law_gone⟩
  exact (sss_cons (ss_if (st_not (st_b (se_isi (T := "tuple") (se_v 1) T.b_isinstance T.b_tuple bt_tuple rfl))) (sss_one (ss_ret se_non)) sss_nil)
    (sss_cons (ss_set 2 a (se_call a (D_law_pairs T) (by decide) (sa_cons (se_fb f_len T.b_len bb_len (sa_cons (se_v 0) sa_nil)) sa_nil)))
    (sss_cons (ss_for a (si_t (se_v 1)) (sg_n 3 a.nd) (sss_cons (ss_if (st_w (sw_or (st_cmp (o_notIn a) (se_v 3) (se_v 2)) (sw_or1 (st_not (st_b (se_call a (D_law_can T) (by decide) (sa_cons (se_v 0) (sa_cons (se_v 3) sa_nil)))))))) (sss_one (ss_ret se_non)) sss_nil)
    (sss_one (ss_set 0 a (se_call a (D_law_behind T) (by decide) (sa_cons (se_v 0) (sa_cons (se_v 3) sa_nil)))))))
    (sss_one (ss_ret (se_v 0))))))
theorem D_law_gone (T : Txt K mg base) : Def P w K mg base 2 "_law_gone" 2 (spOf mg 2 sp_law_gone) := by
  obtain ⟨f, fd, F, hm⟩ := T.f_law_gone
  exact ⟨f, fd, _, ok_law_gone T F, hm, F.kp, F.binds (ps := ["_law_heaps_here", "_law_plan"]) fun _ _ _ _ _ _ us hl => match us, hl with | [_, _], _ => rfl, rfl⟩
theorem sc_law_part : FnScope ["_law_one", "_law_other"] ["_law_one", "_law_other"] (defScope (top 32)) := ⟨rfl, rfl, rfl, by decide +kernel, rfl, by decide +kernel, by decide +kernel⟩
theorem ok_law_part (T : Txt K mg base) {f : Addr} {fd : FuncData} (F : Fun K "_law_part" "_law_part" (top 32) f fd) : FnOk P w K mg base (L2.CX P w) 1 f fd ["_law_one", "_law_other"] (spOf mg 2 sp_law_part) := by
  refine def_ok (k := 0) F sc_law_part fun cdv A outer s H E a => ⟨w_law_part, ?_, pure_law_part⟩
  exact (sss_cons (ss_while a (st_cmp (o_ne a) (se_v 1) se_int) (sss_one (ss_par 0 1 a (sa_cons (se_v 1) (sa_cons (se_op o_sub (se_v 0) (se_op o_mul (se_op o_div (se_v 0) (se_v 1)) (se_v 1))) sa_nil)))))
    (sss_one (ss_ret (se_v 0))))
theorem D_law_part (T : Txt K mg base) : Def P w K mg base 1 "_law_part" 2 (spOf mg 2 sp_law_part) := by
  obtain ⟨f, fd, F, hm⟩ := T.f_law_part
  exact ⟨f, fd, _, ok_law_part T F, hm, F.kp, F.binds (ps := ["_law_one", "_law_other"]) fun _ _ _ _ _ _ us hl => match us, hl with | [_, _], _ => rfl, rfl⟩
theorem sc_law_odd : FnScope ["_law_heaps_here", "_law_part_here", "_law_x", "_law_left"] ["_law_heaps_here"] (defScope (top 33)) := ⟨rfl, rfl, rfl, by decide +kernel, rfl, by decide +kernel, by decide +kernel⟩
theorem ok_law_odd (T : Txt K mg base) {f : Addr} {fd : FuncData} (F : Fun K "_law_odd" "_law_odd" (top 33) f fd) : FnOk P w K mg base (L2.CX P w) 2 f fd ["_law_heaps_here"] (spOf mg 1 sp_law_odd) := by
  refine def_ok (k := 1) F sc_law_odd fun cdv A outer s H E a => ⟨w_law_odd, ?_, pure_law_odd⟩
  exact (sss_cons (ss_set 1 a se_int)
    (sss_cons (ss_for a (si_t (se_v 0)) (sg_n 2 a.nd) (sss_one (ss_set 1 a (se_call a (D_law_part T) (by decide) (sa_cons (se_v 1) (sa_cons (se_v 2) sa_nil))))))
    (sss_cons (ss_set 3 a (se_op o_div (se_fb (f_sum a) T.b_sum bb_sum (sa_cons (se_v 0) sa_nil)) (se_v 1)))
    (sss_cons (ss_while a (st_cmp (o_eq a) (se_op o_mul (se_op o_div (se_v 3) se_int) se_int) (se_v 3)) (sss_one (ss_set 3 a (se_op o_div (se_v 3) se_int))))
    (sss_one (ss_ret (se_v 3)))))))
theorem D_law_odd (T : Txt K mg base) : Def P w K mg base 2 "_law_odd" 1 (spOf mg 1 sp_law_odd) := by
  obtain ⟨f, fd, F, hm⟩ := T.f_law_odd
  exact ⟨f, fd, _, ok_law_odd T F, hm, F.kp, F.binds (ps := ["_law_heaps_here"]) fun _ _ _ _ _ _ us hl => match us, hl with | [_], _ => rfl, rfl⟩
theorem sc_law_heaps : FnScope ["_law_h", "_law_least", "_law_most", "_law_size", "_law_far", "_law_part_here", "_law_found", "_law_k"] ["_law_h", "_law_least", "_law_most"] (defScope (top 27)) := ⟨rfl, rfl, rfl, by decide +kernel, rfl, by decide +kernel, by decide +kernel⟩
theorem ok_law_heaps (T : Txt K mg base) {f : Addr} {fd : FuncData} (F : Fun K "_law_heaps" "_law_heaps" (top 27) f fd) : FnOk P w K mg base (L2.CX P w) 2 f fd ["_law_h", "_law_least", "_law_most"] (spOfR mg 2 sp_law_heaps) := by
  refine def_okR (k := 1) F sc_law_heaps (by decide) (by decide) fun cdv A outer s H E a => ⟨w_law_heaps, ?_, pure_law_heaps⟩
  exact (sss_cons (ss_set 3 a (se_op o_add (se_v 1) (se_draw 0 a (D_law_next T) (by decide) (se_op o_add (se_op o_sub (se_v 2) (se_v 1)) se_int))))
    (sss_cons (ss_set 4 a (se_ix (se_o (so_lst (sa_cons se_int (sa_cons se_int (sa_cons se_int (sa_cons (se_op o_pow se_int se_int) (sa_cons (se_op o_pow se_int se_int) sa_nil))))))) (se_draw 0 a (D_law_next T) (by decide) se_int)))
    (sss_cons (ss_set 5 a (se_ix (se_o (so_lst (sa_cons se_int (sa_cons se_int (sa_cons se_int (sa_cons se_int (sa_cons se_int sa_nil))))))) (se_draw 0 a (D_law_next T) (by decide) se_int)))
    (sss_cons (ss_setLcO 6 (own := [("_law_k", 7)]) a (si_r1 T.b_range (sa_cons (se_v 3) sa_nil)) (by kernel_rfl) (fun _ _ _ _ _ => (sg_n 7 a.nd)) (fun _ _ _ _ _ a1 => sts_nil) (fun _ _ _ _ _ a1 => (se_op o_mul (se_v 5) (se_draw 0 a1 (D_law_next T) (by decide) (se_v 4)))) (by decide))
    (sss_cons (ss_if (st_cmp (o_eq a) (se_fb (f_max a) T.b_max bb_max (sa_cons (se_v 6) sa_nil)) se_int) (sss_one (ss_setI 6 (se_v 5) (se_draw 0 a (D_law_next T) (by decide) (se_v 3)))) sss_nil)
    (sss_one (ss_ret (se_ft f_tuple T.b_tuple bt_tuple (sa_cons (se_v 6) sa_nil)))))))))
theorem D_law_heaps (T : Txt K mg base) : Def P w K mg base 2 "_law_heaps" 3 (spOfR mg 2 sp_law_heaps) := by
  obtain ⟨f, fd, F, hm⟩ := T.f_law_heaps
  exact ⟨f, fd, _, ok_law_heaps T F, hm, F.kp, F.binds (ps := ["_law_h", "_law_least", "_law_most"]) fun _ _ _ _ _ _ us hl => match us, hl with | [_, _, _], _ => rfl, rfl⟩
theorem sc_law_some : FnScope ["_law_h", "_law_heaps_here", "_law_whole", "_law_part_here", "_law_row", "_law_x"] ["_law_h"] (defScope (top 34)) := ⟨rfl, rfl, rfl, by decide +kernel, rfl, by decide +kernel, by decide +kernel⟩
theorem ok_law_some (T : Txt K mg base) {f : Addr} {fd : FuncData} (F : Fun K "_law_some" "_law_some" (top 34) f fd) : FnOk P w K mg base (L2.CX P w) 3 f fd ["_law_h"] (spOfR mg 0 sp_law_some) := by
  refine def_okR (k := 2) F sc_law_some (by decide) (by decide) fun cdv A outer s H E a => ⟨w_law_some, ?_, pure_law_some⟩
  exact (sss_cons (ss_set 1 a (se_callR 0 a (D_law_heaps T) (by decide) (sa_cons se_int (sa_cons se_int sa_nil))))
    (sss_cons (ss_if (st_cmp (o_eq a) (se_draw 0 a (D_law_next T) (by decide) se_int) se_int) (sss_one (ss_ret (se_v 1))) sss_nil)
    (sss_cons (ss_set 2 a se_int)
    (sss_cons (ss_while a (st_cmp o_lt (se_v 2) (se_fb (f_sum a) T.b_sum bb_sum (sa_cons (se_v 1) sa_nil))) (sss_one (ss_set 2 a (se_op o_mul (se_v 2) se_int))))
    (sss_cons (ss_if (st_cmp o_gt (se_op o_sub (se_op o_add (se_ix (se_v 1) se_int) (se_v 2)) (se_fb (f_sum a) T.b_sum bb_sum (sa_cons (se_v 1) sa_nil))) (se_op o_pow se_int se_int)) (sss_one (ss_ret (se_v 1))) sss_nil)
    (sss_cons (ss_set 3 a (se_if (st_cmp o_gt (se_fb (f_max a) T.b_max bb_max (sa_cons (se_v 1) sa_nil)) (se_op o_pow se_int se_int)) se_int (se_ix (se_o (so_lst (sa_cons se_int (sa_cons se_int (sa_cons se_int sa_nil))))) (se_draw 0 a (D_law_next T) (by decide) se_int))))
    (sss_cons (ss_set 4 a (se_op o_add (se_tup (sa_cons (se_op o_sub (se_op o_add (se_ix (se_v 1) se_int) (se_v 2)) (se_fb (f_sum a) T.b_sum bb_sum (sa_cons (se_v 1) sa_nil))) sa_nil)) (se_slt (se_v 1) (sp_some se_int) sp_none)))
    (sss_one (ss_ret (se_ft f_tuple T.b_tuple bt_tuple (sa_cons (se_o (so_lc (own := [("_law_x", 5)]) a (si_t (se_v 4)) (by kernel_rfl) (fun _ _ _ _ _ => (sg_n 5 a.nd)) (fun _ _ _ _ _ a1 => sts_nil) (fun _ _ _ _ _ a1 => (se_op o_mul (se_v 3) (se_v 5))) (by decide))) sa_nil)))))))))))
theorem D_law_some (T : Txt K mg base) : Def P w K mg base 3 "_law_some" 1 (spOfR mg 0 sp_law_some) := by
  obtain ⟨f, fd, F, hm⟩ := T.f_law_some
  exact ⟨f, fd, _, ok_law_some T F, hm, F.kp, F.binds (ps := ["_law_h"]) fun _ _ _ _ _ _ us hl => match us, hl with | [_], _ => rfl, rfl⟩
theorem sc_is_integer : FnScope ["value"] ["value"] (defScope (top 7)) := ⟨rfl, rfl, rfl, by decide +kernel, rfl, by decide +kernel, by decide +kernel⟩
theorem ok_is_integer (T : Txt K mg base) {f : Addr} {fd : FuncData} (F : Fun K "is_integer" "is_integer" (top 7) f fd) : FnOk P w K mg base (L2.CX P w) 1 f fd ["value"] (spOf mg 1 sp_is_integer) := by
  refine def_ok (k := 0) F sc_is_integer fun cdv A outer s H E a => ⟨w_is_integer, ?_, pure_is_integer⟩
  exact (sss_one (ss_ret (se_and (se_isi (T := "int") (se_v 0) T.b_isinstance T.b_int bt_int rfl) (se_one (se_not (se_isi (T := "bool") (se_v 0) T.b_isinstance T.b_bool bt_bool rfl))))))
theorem D_is_integer (T : Txt K mg base) : Def P w K mg base 1 "is_integer" 1 (spOf mg 1 sp_is_integer) := by
  obtain ⟨f, fd, F, hm⟩ := T.f_is_integer
  exact ⟨f, fd, _, ok_is_integer T F, hm, F.kp, F.binds (ps := ["value"]) fun _ _ _ _ _ _ us hl => match us, hl with | [_], _ => rfl, rfl⟩
theorem sc_is_from : FnScope ["value", "low", "high"] ["value", "low", "high"] (defScope (top 8)) := ⟨rfl, rfl, rfl, by decide +kernel, rfl, by decide +kernel, by decide +kernel⟩
theorem ok_is_from (T : Txt K mg base) {f : Addr} {fd : FuncData} (F : Fun K "is_from" "is_from" (top 8) f fd) : FnOk P w K mg base (L2.CX P w) 2 f fd ["value", "low", "high"] (spOf mg 3 sp_is_from) := by
  refine def_ok (k := 1) F sc_is_from fun cdv A outer s H E a => ⟨w_is_from, ?_, pure_is_from⟩
  exact (sss_one (ss_ret (se_and (se_call a (D_is_integer T) (by decide) (sa_cons (se_v 0) sa_nil)) (se_one (se_chain o_le o_le (se_v 1) (se_v 0) (se_v 2))))))
theorem D_is_from (T : Txt K mg base) : Def P w K mg base 2 "is_from" 3 (spOf mg 3 sp_is_from) := by
  obtain ⟨f, fd, F, hm⟩ := T.f_is_from
  exact ⟨f, fd, _, ok_is_from T F, hm, F.kp, F.binds (ps := ["value", "low", "high"]) fun _ _ _ _ _ _ us hl => match us, hl with | [_, _, _], _ => rfl, rfl⟩
theorem sc_check_heaps : FnScope ["value", "heap"] ["value"] (defScope (top 9)) := ⟨rfl, rfl, rfl, by decide +kernel, rfl, by decide +kernel, by decide +kernel⟩
theorem ok_check_heaps (T : Txt K mg base) {f : Addr} {fd : FuncData} (F : Fun K "check_heaps" "check_heaps" (top 9) f fd) : FnOk P w K mg base (L2.CX P w) 3 f fd ["value"] (spOf mg 1 sp_check_heaps) := by
  refine def_ok (k := 2) F sc_check_heaps fun cdv A outer s H E a => ⟨w_check_heaps, ?_, pure_check_heaps⟩
  exact (sss_cons (ss_if (st_w (sw_or (st_not (st_b (se_isi (T := "tuple") (se_v 0) T.b_isinstance T.b_tuple bt_tuple rfl))) (sw_or1 (st_not (st_chain o_le o_le (se_gi T.c_LEAST_HEAPS.choose_spec) (se_fb f_len T.b_len bb_len (sa_cons (se_v 0) sa_nil)) (se_gi T.c_MOST_HEAPS.choose_spec)))))) (sss_one (ss_raise a T.r_BadHeaps)) sss_nil)
    (sss_cons (ss_for a (si_t (se_v 0)) (sg_n 1 a.nd) (sss_one (ss_if (st_not (st_b (se_call a (D_is_from T) (by decide) (sa_cons (se_v 1) (sa_cons se_int (sa_cons (se_gi T.c_MOST_IN_HEAP.choose_spec) sa_nil)))))) (sss_one (ss_raise a T.r_BadHeaps)) sss_nil)))
    (sss_one (ss_if (st_cmp (o_eq a) (se_fb (f_max a) T.b_max bb_max (sa_cons (se_v 0) sa_nil)) se_int) (sss_one (ss_raise a T.r_BadHeaps)) sss_nil))))
theorem D_check_heaps (T : Txt K mg base) : Def P w K mg base 3 "check_heaps" 1 (spOf mg 1 sp_check_heaps) := by
  obtain ⟨f, fd, F, hm⟩ := T.f_check_heaps
  exact ⟨f, fd, _, ok_check_heaps T F, hm, F.kp, F.binds (ps := ["value"]) fun _ _ _ _ _ _ us hl => match us, hl with | [_], _ => rfl, rfl⟩
theorem sc_behind : FnScope ["heaps", "step", "one", "other", "found"] ["heaps", "step"] (defScope (top 10)) := ⟨rfl, rfl, rfl, by decide +kernel, rfl, by decide +kernel, by decide +kernel⟩
theorem ok_behind (T : Txt K mg base) {f : Addr} {fd : FuncData} (F : Fun K "behind" "behind" (top 10) f fd) : FnOk P w K mg base (L2.CX P w) 1 f fd ["heaps", "step"] (spOf mg 2 sp_behind) := by
  refine def_ok (k := 0) F sc_behind fun cdv A outer s H E a => ⟨w_behind, ?_, pure_behind⟩
  exact (sss_cons (ss_asg (se_v 1) (sg_t rfl (sgs_cons (sg_n 2 a.nd) (sgs_cons (sg_n 3 a.nd) sgs_nil))))
    (sss_cons (ss_own 4 a (so_ft fo_list T.b_list bt_list (sa_cons (se_v 0) sa_nil)))
    (sss_cons (ss_augI 4 o_isub (se_v 2) (se_ix (se_v 0) (se_v 3)))
    (sss_cons (ss_augI 4 o_iadd (se_v 3) (se_ix (se_v 0) (se_v 3)))
    (sss_one (ss_ret (se_ft f_tuple T.b_tuple bt_tuple (sa_cons (se_v 4) sa_nil))))))))
theorem D_behind (T : Txt K mg base) : Def P w K mg base 1 "behind" 2 (spOf mg 2 sp_behind) := by
  obtain ⟨f, fd, F, hm⟩ := T.f_behind
  exact ⟨f, fd, _, ok_behind T F, hm, F.kp, F.binds (ps := ["heaps", "step"]) fun _ _ _ _ _ _ us hl => match us, hl with | [_, _], _ => rfl, rfl⟩
theorem sc_round_of : FnScope ["heaps", "places", "a", "b", "c", "low", "middle", "near", "found", "left", "giver"] ["heaps", "places"] (defScope (top 18)) := ⟨rfl, rfl, rfl, by decide +kernel, rfl, by decide +kernel, by decide +kernel⟩
theorem ok_round_of (T : Txt K mg base) {f : Addr} {fd : FuncData} (F : Fun K "round_of" "round_of" (top 18) f fd) : FnOk P w K mg base (L2.CX P w) 1 f fd ["heaps", "places"] (spOf mg 2 sp_round_of) := by
  refine def_ok (k := 0) F sc_round_of fun cdv A outer s H E a => ⟨w_round_of, ?_, pure_round_of⟩
  exact (sss_cons (ss_asg (se_v 1) (sg_l rfl (sgs_cons (sg_n 2 a.nd) (sgs_cons (sg_n 3 a.nd) (sgs_cons (sg_n 4 a.nd) sgs_nil)))))
    (sss_cons (ss_par 5 6 a (sa_cons (se_ix (se_v 0) (se_v 2)) (sa_cons (se_ix (se_v 0) (se_v 3)) sa_nil)))
    (sss_cons (ss_set 7 a (se_op o_div (se_op o_add (se_op o_mul se_int (se_v 6)) (se_v 5)) (se_op o_mul se_int (se_v 5))))
    (sss_cons (ss_own 8 a (so_lst sa_nil))
    (sss_cons (ss_set 9 a (se_v 7))
    (sss_cons (ss_while a (st_cmp o_gt (se_v 9) se_int) (sss_cons (ss_set 10 a (se_v 4))
    (sss_cons (ss_if (st_cmp (o_eq a) (se_op o_mod (se_v 9) se_int) se_int) (sss_one (ss_set 10 a (se_v 3))) sss_nil)
    (sss_cons (ss_app 8 (se_tup (sa_cons (se_v 10) (sa_cons (se_v 2) sa_nil))))
    (sss_one (ss_aug 9 a o_idiv se_int))))))
    (sss_cons (ss_if (st_cmp o_gt (se_op o_mul (se_v 7) (se_v 5)) (se_v 6)) (sss_one (ss_setI 8 (se_tup (sa_cons (se_v 2) (sa_cons (se_v 3) sa_nil))) (se_neg se_int))) sss_nil)
    (sss_one (ss_ret (se_v 8))))))))))
theorem D_round_of (T : Txt K mg base) : Def P w K mg base 1 "round_of" 2 (spOf mg 2 sp_round_of) := by
  obtain ⟨f, fd, F, hm⟩ := T.f_round_of
  exact ⟨f, fd, _, ok_round_of T F, hm, F.kp, F.binds (ps := ["heaps", "places"]) fun _ _ _ _ _ _ us hl => match us, hl with | [_, _], _ => rfl, rfl⟩
theorem sc_emptied : FnScope ["heaps", "places", "found", "place", "order", "step"] ["heaps", "places"] (defScope (top 19)) := ⟨rfl, rfl, rfl, by decide +kernel, rfl, by decide +kernel, by decide +kernel⟩
theorem ok_emptied (T : Txt K mg base) {f c q : Addr} {fd : FuncData} (F : Fun K "emptied" "emptied" (top 19) f fd) (hc : fd.code = .ref c) (TB : LamX.TabB base mg c q) (hT : (q, (("emptied" : Str) ++ ".<locals>." ++ "<lambda>")) ∈ Tbs.T) (hu : ∀ p ∈ Tbs.T, p.1 = q → p.2 = (("emptied" : Str) ++ ".<locals>." ++ "<lambda>")) : FnOk P w K mg base (L2.CX P w) 2 f fd ["heaps", "places"] (spOf mg 2 sp_emptied) := by
  refine def_okL (k := 1) F hc sc_emptied fun A outer s H E a => ⟨w_emptied, ?_, pure_emptied⟩
  exact (sss_cons (ss_own 2 a (so_lst sa_nil))
    (sss_cons (ss_while a (st_cmp o_gt (se_fb (f_min a) T.b_min bb_min (sa_cons (se_o (so_lc (own := [("place", 3)]) a (si_l (se_v 1)) (by kernel_rfl) (fun _ _ _ _ _ => (sg_n 3 a.nd)) (fun _ _ _ _ _ a1 => sts_nil) (fun _ _ _ _ _ a1 => (se_ix (se_v 0) (se_v 3))) (by decide))) sa_nil)) se_int) (sss_cons (ss_set 4 a (se_o (so_sortLam 0 a (by decide) TB hT hu (se_v 1) T.b_sorted)))
    (sss_one (ss_for a (si_l (se_call a (D_round_of T) (by decide) (sa_cons (se_v 0) (sa_cons (se_v 4) sa_nil)))) (sg_n 5 a.nd) (sss_cons (ss_set 0 a (se_call a (D_behind T) (by decide) (sa_cons (se_v 0) (sa_cons (se_v 5) sa_nil))))
    (sss_one (ss_app 2 (se_v 5))))))))
    (sss_one (ss_ret (se_tup (sa_cons (se_v 0) (sa_cons (se_v 2) sa_nil)))))))
theorem D_emptied (T : Txt K mg base) : Def P w K mg base 2 "emptied" 2 (spOf mg 2 sp_emptied) := by
  obtain ⟨f, c, q, fd, F, hm, hc, TB, hT, hu⟩ := T.f_emptied
  exact ⟨f, fd, _, ok_emptied T F hc TB hT hu, hm, F.kp, F.binds (ps := ["heaps", "places"]) fun _ _ _ _ _ _ us hl => match us, hl with | [_, _], _ => rfl, rfl⟩
theorem sc_full_places : FnScope ["heaps", "places", "place", "heap"] ["heaps"] (defScope (top 17)) := ⟨rfl, rfl, rfl, by decide +kernel, rfl, by decide +kernel, by decide +kernel⟩
theorem ok_full_places (T : Txt K mg base) {f c q : Addr} {fd : FuncData} (F : Fun K "full_places" "full_places" (top 17) f fd) (hc : fd.code = .ref c) (TB : LamX.TabB base mg c q) (hT : (q, (("full_places" : Str) ++ ".<locals>." ++ "<lambda>")) ∈ Tbs.T) (hu : ∀ p ∈ Tbs.T, p.1 = q → p.2 = (("full_places" : Str) ++ ".<locals>." ++ "<lambda>")) : FnOk P w K mg base (L2.CX P w) 2 f fd ["heaps"] (spOf mg 1 sp_full_places) := by
  refine def_okL (k := 1) F hc sc_full_places fun A outer s H E a => ⟨w_full_places, ?_, pure_full_places⟩
  exact (sss_cons (ss_setLc 1 (own := [("place", 2), ("heap", 3)]) a (si_enT a T.b_enumerate (se_v 0)) (by kernel_rfl) (fun _ _ _ _ _ => (sg_t a.calm (sgs_cons (sg_n 2 a.nd) (sgs_cons (sg_n 3 a.nd) sgs_nil)))) (fun _ _ _ _ _ a1 => (sts_one (st_cmp o_gt (se_v 3) se_int))) (fun _ _ _ _ _ a1 => (se_v 2)) (by decide))
    (sss_one (ss_ret (se_o (so_sortLam 0 a (by decide) TB hT hu (se_v 1) T.b_sorted)))))
theorem D_full_places (T : Txt K mg base) : Def P w K mg base 2 "full_places" 1 (spOf mg 1 sp_full_places) := by
  obtain ⟨f, c, q, fd, F, hm, hc, TB, hT, hu⟩ := T.f_full_places
  exact ⟨f, fd, _, ok_full_places T F hc TB hT hu, hm, F.kp, F.binds (ps := ["heaps"]) fun _ _ _ _ _ _ us hl => match us, hl with | [_], _ => rfl, rfl⟩
theorem sc_empty_plan : FnScope ["heaps", "places"] ["heaps"] (defScope (top 20)) := ⟨rfl, rfl, rfl, by decide +kernel, rfl, by decide +kernel, by decide +kernel⟩
theorem ok_empty_plan (T : Txt K mg base) {f : Addr} {fd : FuncData} (F : Fun K "empty_plan" "empty_plan" (top 20) f fd) : FnOk P w K mg base (L2.CX P w) 4 f fd ["heaps"] (spOf mg 1 sp_empty_plan) := by
  refine def_ok (k := 3) F sc_empty_plan fun cdv A outer s H E a => ⟨w_empty_plan, ?_, pure_empty_plan⟩
  exact (sss_cons (ss_expr (se_call a (D_check_heaps T) (by decide) (sa_cons (se_v 0) sa_nil)))
    (sss_cons (ss_if (st_cmp o_lt (se_fb f_len T.b_len bb_len (sa_cons (se_v 0) sa_nil)) se_int) (sss_one (ss_raise a T.r_BadHeaps)) sss_nil)
    (sss_cons (ss_set 1 a (se_call a (D_full_places T) (by decide) (sa_cons (se_v 0) sa_nil)))
    (sss_cons (ss_if (st_cmp o_lt (se_fb f_len T.b_len bb_len (sa_cons (se_v 1) sa_nil)) (se_fb f_len T.b_len bb_len (sa_cons (se_v 0) sa_nil))) (sss_one (ss_ret (se_tup sa_nil))) sss_nil)
    (sss_one (ss_ret (se_ft f_tuple T.b_tuple bt_tuple (sa_cons (se_ix (se_call a (D_emptied T) (by decide) (sa_cons (se_v 0) (sa_cons (se_o (so_sl (se_v 1) sp_none (sp_some se_int))) sa_nil))) se_int) sa_nil))))))))
theorem D_empty_plan (T : Txt K mg base) : Def P w K mg base 4 "empty_plan" 1 (spOf mg 1 sp_empty_plan) := by
  obtain ⟨f, fd, F, hm⟩ := T.f_empty_plan
  exact ⟨f, fd, _, ok_empty_plan T F, hm, F.kp, F.binds (ps := ["heaps"]) fun _ _ _ _ _ _ us hl => match us, hl with | [_], _ => rfl, rfl⟩
theorem sc_common : FnScope ["one", "other"] ["one", "other"] (defScope (top 12)) := ⟨rfl, rfl, rfl, by decide +kernel, rfl, by decide +kernel, by decide +kernel⟩
theorem ok_common (T : Txt K mg base) {f : Addr} {fd : FuncData} (F : Fun K "common" "common" (top 12) f fd) : FnOk P w K mg base (L2.CX P w) 1 f fd ["one", "other"] (spOf mg 2 sp_common) := by
  refine def_ok (k := 0) F sc_common fun cdv A outer s H E a => ⟨w_common, ?_, pure_common⟩
  exact (sss_cons (ss_while a (st_tru (se_v 1)) (sss_one (ss_par 0 1 a (sa_cons (se_v 1) (sa_cons (se_op o_mod (se_v 0) (se_v 1)) sa_nil)))))
    (sss_one (ss_ret (se_v 0))))
theorem D_common (T : Txt K mg base) : Def P w K mg base 1 "common" 2 (spOf mg 2 sp_common) := by
  obtain ⟨f, fd, F, hm⟩ := T.f_common
  exact ⟨f, fd, _, ok_common T F, hm, F.kp, F.binds (ps := ["one", "other"]) fun _ _ _ _ _ _ us hl => match us, hl with | [_, _], _ => rfl, rfl⟩
theorem sc_odd_of : FnScope ["number"] ["number"] (defScope (top 14)) := ⟨rfl, rfl, rfl, by decide +kernel, rfl, by decide +kernel, by decide +kernel⟩
theorem ok_odd_of (T : Txt K mg base) {f : Addr} {fd : FuncData} (F : Fun K "odd_of" "odd_of" (top 14) f fd) : FnOk P w K mg base (L2.CX P w) 1 f fd ["number"] (spOf mg 1 sp_odd_of) := by
  refine def_ok (k := 0) F sc_odd_of fun cdv A outer s H E a => ⟨w_odd_of, ?_, pure_odd_of⟩
  exact (sss_cons (ss_while a (st_cmp (o_eq a) (se_op o_mod (se_v 0) se_int) se_int) (sss_one (ss_aug 0 a o_idiv se_int)))
    (sss_one (ss_ret (se_v 0))))
theorem D_odd_of (T : Txt K mg base) : Def P w K mg base 1 "odd_of" 1 (spOf mg 1 sp_odd_of) := by
  obtain ⟨f, fd, F, hm⟩ := T.f_odd_of
  exact ⟨f, fd, _, ok_odd_of T F, hm, F.kp, F.binds (ps := ["number"]) fun _ _ _ _ _ _ us hl => match us, hl with | [_], _ => rfl, rfl⟩
theorem sc_odd_by : FnScope ["heaps", "part", "heap"] ["heaps"] (defScope (top 15)) := ⟨rfl, rfl, rfl, by decide +kernel, rfl, by decide +kernel, by decide +kernel⟩
theorem ok_odd_by (T : Txt K mg base) {f : Addr} {fd : FuncData} (F : Fun K "odd_by" "odd_by" (top 15) f fd) : FnOk P w K mg base (L2.CX P w) 2 f fd ["heaps"] (spOf mg 1 sp_odd_by) := by
  refine def_ok (k := 1) F sc_odd_by fun cdv A outer s H E a => ⟨w_odd_by, ?_, pure_odd_by⟩
  exact (sss_cons (ss_set 1 a se_int)
    (sss_cons (ss_for a (si_t (se_v 0)) (sg_n 2 a.nd) (sss_one (ss_set 1 a (se_call a (D_common T) (by decide) (sa_cons (se_v 1) (sa_cons (se_v 2) sa_nil))))))
    (sss_one (ss_ret (se_call a (D_odd_of T) (by decide) (sa_cons (se_op o_div (se_fb (f_sum a) T.b_sum bb_sum (sa_cons (se_v 0) sa_nil)) (se_v 1)) sa_nil))))))
theorem D_odd_by (T : Txt K mg base) : Def P w K mg base 2 "odd_by" 1 (spOf mg 1 sp_odd_by) := by
  obtain ⟨f, fd, F, hm⟩ := T.f_odd_by
  exact ⟨f, fd, _, ok_odd_by T F, hm, F.kp, F.binds (ps := ["heaps"]) fun _ _ _ _ _ _ us hl => match us, hl with | [_], _ => rfl, rfl⟩
theorem sc_odd_part : FnScope ["heaps"] ["heaps"] (defScope (top 16)) := ⟨rfl, rfl, rfl, by decide +kernel, rfl, by decide +kernel, by decide +kernel⟩
theorem ok_odd_part (T : Txt K mg base) {f : Addr} {fd : FuncData} (F : Fun K "odd_part" "odd_part" (top 16) f fd) : FnOk P w K mg base (L2.CX P w) 4 f fd ["heaps"] (spOf mg 1 sp_odd_part) := by
  refine def_ok (k := 3) F sc_odd_part fun cdv A outer s H E a => ⟨w_odd_part, ?_, pure_odd_part⟩
  exact (sss_cons (ss_expr (se_call a (D_check_heaps T) (by decide) (sa_cons (se_v 0) sa_nil)))
    (sss_one (ss_ret (se_call a (D_odd_by T) (by decide) (sa_cons (se_v 0) sa_nil)))))
theorem D_odd_part (T : Txt K mg base) : Def P w K mg base 4 "odd_part" 1 (spOf mg 1 sp_odd_part) := by
  obtain ⟨f, fd, F, hm⟩ := T.f_odd_part
  exact ⟨f, fd, _, ok_odd_part T F, hm, F.kp, F.binds (ps := ["heaps"]) fun _ _ _ _ _ _ us hl => match us, hl with | [_], _ => rfl, rfl⟩
theorem sc_pair_steps : FnScope ["heaps", "found", "places", "more"] ["heaps"] (defScope (top 21)) := ⟨rfl, rfl, rfl, by decide +kernel, rfl, by decide +kernel, by decide +kernel⟩
theorem ok_pair_steps (T : Txt K mg base) {f : Addr} {fd : FuncData} (F : Fun K "pair_steps" "pair_steps" (top 21) f fd) : FnOk P w K mg base (L2.CX P w) 3 f fd ["heaps"] (spOf mg 1 sp_pair_steps) := by
  refine def_ok (k := 2) F sc_pair_steps fun cdv A outer s H E a => ⟨w_pair_steps, ?_, pure_pair_steps⟩
  exact (sss_cons (ss_own 1 a (so_lst sa_nil))
    (sss_cons (ss_set 2 a (se_call a (D_full_places T) (by decide) (sa_cons (se_v 0) sa_nil)))
    (sss_cons (ss_while a (st_cmp o_gt (se_fb f_len T.b_len bb_len (sa_cons (se_v 2) sa_nil)) se_int) (sss_cons (ss_asg (se_call a (D_emptied T) (by decide) (sa_cons (se_v 0) (sa_cons (se_o (so_sl (se_v 2) sp_none (sp_some se_int))) sa_nil))) (sg_t rfl (sgs_cons (sg_n 0 a.nd) (sgs_cons (sg_n 3 a.nd) sgs_nil))))
    (sss_cons (ss_ext 1 (se_v 3))
    (sss_one (ss_set 2 a (se_call a (D_full_places T) (by decide) (sa_cons (se_v 0) sa_nil)))))))
    (sss_one (ss_ret (se_tup (sa_cons (se_v 0) (sa_cons (se_v 1) sa_nil))))))))
theorem D_pair_steps (T : Txt K mg base) : Def P w K mg base 3 "pair_steps" 1 (spOf mg 1 sp_pair_steps) := by
  obtain ⟨f, fd, F, hm⟩ := T.f_pair_steps
  exact ⟨f, fd, _, ok_pair_steps T F, hm, F.kp, F.binds (ps := ["heaps"]) fun _ _ _ _ _ _ us hl => match us, hl with | [_], _ => rfl, rfl⟩
theorem sc_one_plan : FnScope ["heaps", "found", "places", "step"] ["heaps"] (defScope (top 23)) := ⟨rfl, rfl, rfl, by decide +kernel, rfl, by decide +kernel, by decide +kernel⟩
theorem ok_one_plan (T : Txt K mg base) {f : Addr} {fd : FuncData} (F : Fun K "one_plan" "one_plan" (top 23) f fd) : FnOk P w K mg base (L2.CX P w) 4 f fd ["heaps"] (spOf mg 1 sp_one_plan) := by
  refine def_ok (k := 3) F sc_one_plan fun cdv A outer s H E a => ⟨w_one_plan, ?_, pure_one_plan⟩
  exact (sss_cons (ss_expr (se_call a (D_check_heaps T) (by decide) (sa_cons (se_v 0) sa_nil)))
    (sss_cons (ss_if (st_cmp o_gt (se_call a (D_odd_by T) (by decide) (sa_cons (se_v 0) sa_nil)) se_int) (sss_one (ss_ret se_non)) sss_nil)
    (sss_cons (ss_asgO 0 1 a (D_pair_steps T) (by decide) (sa_cons (se_v 0) sa_nil))
    (sss_cons (ss_set 2 a (se_call a (D_full_places T) (by decide) (sa_cons (se_v 0) sa_nil)))
    (sss_cons (ss_while a (st_cmp o_gt (se_fb f_len T.b_len bb_len (sa_cons (se_v 2) sa_nil)) se_int) (sss_cons (ss_set 3 a (se_tup (sa_cons (se_ix (se_v 2) se_int) (sa_cons (se_ix (se_v 2) se_int) sa_nil))))
    (sss_cons (ss_set 0 a (se_call a (D_behind T) (by decide) (sa_cons (se_v 0) (sa_cons (se_v 3) sa_nil))))
    (sss_cons (ss_app 1 (se_v 3))
    (sss_one (ss_set 2 a (se_call a (D_full_places T) (by decide) (sa_cons (se_v 0) sa_nil))))))))
    (sss_one (ss_ret (se_ft f_tuple T.b_tuple bt_tuple (sa_cons (se_v 1) sa_nil)))))))))
theorem D_one_plan (T : Txt K mg base) : Def P w K mg base 4 "one_plan" 1 (spOf mg 1 sp_one_plan) := by
  obtain ⟨f, fd, F, hm⟩ := T.f_one_plan
  exact ⟨f, fd, _, ok_one_plan T F, hm, F.kp, F.binds (ps := ["heaps"]) fun _ _ _ _ _ _ us hl => match us, hl with | [_], _ => rfl, rfl⟩
theorem sc_pair_plan : FnScope ["heaps"] ["heaps"] (defScope (top 22)) := ⟨rfl, rfl, rfl, by decide +kernel, rfl, by decide +kernel, by decide +kernel⟩
theorem ok_pair_plan (T : Txt K mg base) {f : Addr} {fd : FuncData} (F : Fun K "pair_plan" "pair_plan" (top 22) f fd) : FnOk P w K mg base (L2.CX P w) 4 f fd ["heaps"] (spOf mg 1 sp_pair_plan) := by
  refine def_ok (k := 3) F sc_pair_plan fun cdv A outer s H E a => ⟨w_pair_plan, ?_, pure_pair_plan⟩
  exact (sss_cons (ss_expr (se_call a (D_check_heaps T) (by decide) (sa_cons (se_v 0) sa_nil)))
    (sss_one (ss_ret (se_ft f_tuple T.b_tuple bt_tuple (sa_cons (se_ix (se_call a (D_pair_steps T) (by decide) (sa_cons (se_v 0) sa_nil)) se_int) sa_nil)))))
theorem D_pair_plan (T : Txt K mg base) : Def P w K mg base 4 "pair_plan" 1 (spOf mg 1 sp_pair_plan) := by
  obtain ⟨f, fd, F, hm⟩ := T.f_pair_plan
  exact ⟨f, fd, _, ok_pair_plan T F, hm, F.kp, F.binds (ps := ["heaps"]) fun _ _ _ _ _ _ us hl => match us, hl with | [_], _ => rfl, rfl⟩
theorem sc_law : FnScope ["_law_script", "_law_h", "_law_heaps_here", "_law_figures", "_law_left", "_law_most", "_law_plan", "_law_end"] ["_law_script"] (defScope (top 36)) := ⟨rfl, rfl, rfl, by decide +kernel, rfl, by decide +kernel, by decide +kernel⟩
theorem ok_law (T : Txt K mg base) {f : Addr} {fd : FuncData} (F : Fun K "law" "law" (top 36) f fd) : FnOk P w K mg base (L2.CX P w) 5 f fd ["_law_script"] (spLaw K) := by
  refine law_ok (k := 4) (i := 1) (seed := 4) F sc_law (by decide) fun cdv A outer s H E a => ⟨_, _, _, w_law, rfl, ps_mix 1 a (D_law_mix T) (by decide), ?_, pure_law⟩
  exact (sss_cons (ss_set 2 a (se_callR 1 a (D_law_some T) (by decide) sa_nil))
    (sss_cons (ss_par 3 4 a (sa_cons se_int (sa_cons (se_fb (f_sum a) T.b_sum bb_sum (sa_cons (se_v 2) sa_nil)) sa_nil)))
    (sss_cons (ss_while a (st_cmp o_gt (se_v 4) se_int) (sss_one (ss_par 3 4 a (sa_cons (se_op o_add (se_v 3) se_int) (sa_cons (se_op o_div (se_v 4) se_int) sa_nil)))))
    (sss_cons (ss_set 5 a (se_op o_mul (se_v 3) (se_v 3)))
    (sss_cons (ss_if (st_cmp (o_ne a) (se_call a (D_odd_part T) (by decide) (sa_cons (se_v 2) sa_nil)) (se_call a (D_law_odd T) (by decide) (sa_cons (se_v 2) sa_nil))) (sss_one (ss_ret se_bl)) sss_nil)
    (sss_cons (ss_if (st_cmp o_gt (se_fb f_len T.b_len bb_len (sa_cons (se_v 2) sa_nil)) se_int) (sss_cons (ss_set 6 a (se_call a (D_empty_plan T) (by decide) (sa_cons (se_v 2) sa_nil)))
    (sss_cons (ss_set 7 a (se_call a (D_law_gone T) (by decide) (sa_cons (se_v 2) (sa_cons (se_v 6) sa_nil))))
    (sss_one (ss_if (st_w (sw_or (st_cmp o_is (se_v 7) se_non) (sw_or (st_cmp o_gt (se_fb (f_min a) T.b_min bb_min (sa_cons (se_v 7) sa_nil)) se_int) (sw_or1 (st_cmp o_gt (se_fb f_len T.b_len bb_len (sa_cons (se_v 6) sa_nil)) (se_v 5)))))) (sss_one (ss_ret se_bl)) sss_nil)))) sss_nil)
    (sss_cons (ss_set 6 a (se_call a (D_pair_plan T) (by decide) (sa_cons (se_v 2) sa_nil)))
    (sss_cons (ss_set 7 a (se_call a (D_law_gone T) (by decide) (sa_cons (se_v 2) (sa_cons (se_v 6) sa_nil))))
    (sss_cons (ss_if (st_w (sw_or (st_cmp o_is (se_v 7) se_non) (sw_or (st_cmp o_gt (se_call a (D_law_full T) (by decide) (sa_cons (se_v 7) sa_nil)) se_int) (sw_or1 (st_cmp o_gt (se_fb f_len T.b_len bb_len (sa_cons (se_v 6) sa_nil)) (se_op o_mul (se_v 5) (se_fb f_len T.b_len bb_len (sa_cons (se_v 2) sa_nil)))))))) (sss_one (ss_ret se_bl)) sss_nil)
    (sss_cons (ss_set 6 a (se_call a (D_one_plan T) (by decide) (sa_cons (se_v 2) sa_nil)))
    (sss_cons (ss_if (st_cmp o_gt (se_call a (D_law_odd T) (by decide) (sa_cons (se_v 2) sa_nil)) se_int) (sss_one (ss_ret (se_cmp o_is (se_v 6) se_non))) sss_nil)
    (sss_cons (ss_set 7 a (se_call a (D_law_gone T) (by decide) (sa_cons (se_v 2) (sa_cons (se_v 6) sa_nil))))
    (sss_one (ss_ret (se_and (se_cmp o_isNot (se_v 7) se_non) (se_and (se_cmp (o_eq a) (se_call a (D_law_full T) (by decide) (sa_cons (se_v 7) sa_nil)) se_int) (se_one (se_cmp o_le (se_fb f_len T.b_len bb_len (sa_cons (se_v 6) sa_nil)) (se_op o_mul (se_v 5) (se_fb f_len T.b_len bb_len (sa_cons (se_v 2) sa_nil)))))))))))))))))))))
end
end Pu

namespace Pu
open PySem L2
theorem all_mk {P : Program} {w : World} {K : PySem.W.Frag} {h : Heap} {mg : Str → Option Value} {fa : Addr} (X : K.In h) (G : h.Ns mainGlobals mg) (hfa : mg "law" = some (.ref fa))
    {ts : List Addr}
    {f_law_full : Addr} {oc_law_full kV_law_full dc_law_full pm_law_full cd_law_full ct_law_full : Value} {od_law_full an_law_full : Option Addr} {sl_law_full : Array (Option Value)}
    {f_law_behind : Addr} {oc_law_behind kV_law_behind dc_law_behind pm_law_behind cd_law_behind ct_law_behind : Value} {od_law_behind an_law_behind : Option Addr} {sl_law_behind : Array (Option Value)}
    {f_law_can : Addr} {oc_law_can kV_law_can dc_law_can pm_law_can cd_law_can ct_law_can : Value} {od_law_can an_law_can : Option Addr} {sl_law_can : Array (Option Value)}
    {f_law_pairs : Addr} {oc_law_pairs kV_law_pairs dc_law_pairs pm_law_pairs cd_law_pairs ct_law_pairs : Value} {od_law_pairs an_law_pairs : Option Addr} {sl_law_pairs : Array (Option Value)}
    {f_law_gone : Addr} {oc_law_gone kV_law_gone dc_law_gone pm_law_gone cd_law_gone ct_law_gone : Value} {od_law_gone an_law_gone : Option Addr} {sl_law_gone : Array (Option Value)}
    {f_law_part : Addr} {oc_law_part kV_law_part dc_law_part pm_law_part cd_law_part ct_law_part : Value} {od_law_part an_law_part : Option Addr} {sl_law_part : Array (Option Value)}
    {f_law_odd : Addr} {oc_law_odd kV_law_odd dc_law_odd pm_law_odd cd_law_odd ct_law_odd : Value} {od_law_odd an_law_odd : Option Addr} {sl_law_odd : Array (Option Value)}
    {f_law_heaps : Addr} {oc_law_heaps kV_law_heaps dc_law_heaps pm_law_heaps cd_law_heaps ct_law_heaps : Value} {od_law_heaps an_law_heaps : Option Addr} {sl_law_heaps : Array (Option Value)}
    {f_law_some : Addr} {oc_law_some kV_law_some dc_law_some pm_law_some cd_law_some ct_law_some : Value} {od_law_some an_law_some : Option Addr} {sl_law_some : Array (Option Value)}
    {f_is_integer : Addr} {oc_is_integer kV_is_integer dc_is_integer pm_is_integer cd_is_integer ct_is_integer : Value} {od_is_integer an_is_integer : Option Addr} {sl_is_integer : Array (Option Value)}
    {f_is_from : Addr} {oc_is_from kV_is_from dc_is_from pm_is_from cd_is_from ct_is_from : Value} {od_is_from an_is_from : Option Addr} {sl_is_from : Array (Option Value)}
    {f_check_heaps : Addr} {oc_check_heaps kV_check_heaps dc_check_heaps pm_check_heaps cd_check_heaps ct_check_heaps : Value} {od_check_heaps an_check_heaps : Option Addr} {sl_check_heaps : Array (Option Value)}
    {f_behind : Addr} {oc_behind kV_behind dc_behind pm_behind cd_behind ct_behind : Value} {od_behind an_behind : Option Addr} {sl_behind : Array (Option Value)}
    {f_round_of : Addr} {oc_round_of kV_round_of dc_round_of pm_round_of cd_round_of ct_round_of : Value} {od_round_of an_round_of : Option Addr} {sl_round_of : Array (Option Value)}
    {f_emptied kk_emptied : Addr} {oc_emptied kV_emptied dc_emptied pm_emptied ct_emptied : Value} {od_emptied an_emptied : Option Addr} {sl_emptied : Array (Option Value)}
    {f_full_places kk_full_places : Addr} {oc_full_places kV_full_places dc_full_places pm_full_places ct_full_places : Value} {od_full_places an_full_places : Option Addr} {sl_full_places : Array (Option Value)}
    {f_empty_plan : Addr} {oc_empty_plan kV_empty_plan dc_empty_plan pm_empty_plan cd_empty_plan ct_empty_plan : Value} {od_empty_plan an_empty_plan : Option Addr} {sl_empty_plan : Array (Option Value)}
    {f_common : Addr} {oc_common kV_common dc_common pm_common cd_common ct_common : Value} {od_common an_common : Option Addr} {sl_common : Array (Option Value)}
    {f_odd_of : Addr} {oc_odd_of kV_odd_of dc_odd_of pm_odd_of cd_odd_of ct_odd_of : Value} {od_odd_of an_odd_of : Option Addr} {sl_odd_of : Array (Option Value)}
    {f_odd_by : Addr} {oc_odd_by kV_odd_by dc_odd_by pm_odd_by cd_odd_by ct_odd_by : Value} {od_odd_by an_odd_by : Option Addr} {sl_odd_by : Array (Option Value)}
    {f_odd_part : Addr} {oc_odd_part kV_odd_part dc_odd_part pm_odd_part cd_odd_part ct_odd_part : Value} {od_odd_part an_odd_part : Option Addr} {sl_odd_part : Array (Option Value)}
    {f_pair_steps : Addr} {oc_pair_steps kV_pair_steps dc_pair_steps pm_pair_steps cd_pair_steps ct_pair_steps : Value} {od_pair_steps an_pair_steps : Option Addr} {sl_pair_steps : Array (Option Value)}
    {f_one_plan : Addr} {oc_one_plan kV_one_plan dc_one_plan pm_one_plan cd_one_plan ct_one_plan : Value} {od_one_plan an_one_plan : Option Addr} {sl_one_plan : Array (Option Value)}
    {f_pair_plan : Addr} {oc_pair_plan kV_pair_plan dc_pair_plan pm_pair_plan cd_pair_plan ct_pair_plan : Value} {od_pair_plan an_pair_plan : Option Addr} {sl_pair_plan : Array (Option Value)}
    {f_law : Addr} {oc_law kV_law dc_law pm_law cd_law ct_law : Value} {od_law an_law : Option Addr} {sl_law : Array (Option Value)}
    {f_law_mix : Addr} {oc_law_mix kV_law_mix dc_law_mix pm_law_mix cd_law_mix ct_law_mix : Value} {od_law_mix an_law_mix : Option Addr} {sl_law_mix : Array (Option Value)}
    {f_law_next : Addr} {oc_law_next kV_law_next dc_law_next pm_law_next cd_law_next ct_law_next : Value} {od_law_next an_law_next : Option Addr} {sl_law_next : Array (Option Value)}
    {C_BadHeaps : Addr}
    (a_law_full : PySem.W.nsIn K mainGlobals "_law_full" = some (some (.ref f_law_full)))
    (l_law_full : K.lookup f_law_full = some ⟨oc_law_full, od_law_full, .func (PySem.W.fnOf "_law_full" "_law_full" (defArgs (top 35)) (defBody (top 35)) (defScope (top 35)) .none kV_law_full dc_law_full pm_law_full an_law_full cd_law_full ct_law_full), sl_law_full⟩)
    (c_law_full : PySem.W.codeIn K cd_law_full "_law_full" = true)
    (k_law_full : PySem.W.keepIn K (.ref f_law_full) = true)
    (a_law_behind : PySem.W.nsIn K mainGlobals "_law_behind" = some (some (.ref f_law_behind)))
    (l_law_behind : K.lookup f_law_behind = some ⟨oc_law_behind, od_law_behind, .func (PySem.W.fnOf "_law_behind" "_law_behind" (defArgs (top 29)) (defBody (top 29)) (defScope (top 29)) .none kV_law_behind dc_law_behind pm_law_behind an_law_behind cd_law_behind ct_law_behind), sl_law_behind⟩)
    (c_law_behind : PySem.W.codeIn K cd_law_behind "_law_behind" = true)
    (k_law_behind : PySem.W.keepIn K (.ref f_law_behind) = true)
    (a_law_can : PySem.W.nsIn K mainGlobals "_law_can" = some (some (.ref f_law_can)))
    (l_law_can : K.lookup f_law_can = some ⟨oc_law_can, od_law_can, .func (PySem.W.fnOf "_law_can" "_law_can" (defArgs (top 28)) (defBody (top 28)) (defScope (top 28)) .none kV_law_can dc_law_can pm_law_can an_law_can cd_law_can ct_law_can), sl_law_can⟩)
    (c_law_can : PySem.W.codeIn K cd_law_can "_law_can" = true)
    (k_law_can : PySem.W.keepIn K (.ref f_law_can) = true)
    (a_law_pairs : PySem.W.nsIn K mainGlobals "_law_pairs" = some (some (.ref f_law_pairs)))
    (l_law_pairs : K.lookup f_law_pairs = some ⟨oc_law_pairs, od_law_pairs, .func (PySem.W.fnOf "_law_pairs" "_law_pairs" (defArgs (top 30)) (defBody (top 30)) (defScope (top 30)) .none kV_law_pairs dc_law_pairs pm_law_pairs an_law_pairs cd_law_pairs ct_law_pairs), sl_law_pairs⟩)
    (c_law_pairs : PySem.W.codeIn K cd_law_pairs "_law_pairs" = true)
    (k_law_pairs : PySem.W.keepIn K (.ref f_law_pairs) = true)
    (a_law_gone : PySem.W.nsIn K mainGlobals "_law_gone" = some (some (.ref f_law_gone)))
    (l_law_gone : K.lookup f_law_gone = some ⟨oc_law_gone, od_law_gone, .func (PySem.W.fnOf "_law_gone" "_law_gone" (defArgs (top 31)) (defBody (top 31)) (defScope (top 31)) .none kV_law_gone dc_law_gone pm_law_gone an_law_gone cd_law_gone ct_law_gone), sl_law_gone⟩)
    (c_law_gone : PySem.W.codeIn K cd_law_gone "_law_gone" = true)
    (k_law_gone : PySem.W.keepIn K (.ref f_law_gone) = true)
    (a_law_part : PySem.W.nsIn K mainGlobals "_law_part" = some (some (.ref f_law_part)))
    (l_law_part : K.lookup f_law_part = some ⟨oc_law_part, od_law_part, .func (PySem.W.fnOf "_law_part" "_law_part" (defArgs (top 32)) (defBody (top 32)) (defScope (top 32)) .none kV_law_part dc_law_part pm_law_part an_law_part cd_law_part ct_law_part), sl_law_part⟩)
    (c_law_part : PySem.W.codeIn K cd_law_part "_law_part" = true)
    (k_law_part : PySem.W.keepIn K (.ref f_law_part) = true)
    (a_law_odd : PySem.W.nsIn K mainGlobals "_law_odd" = some (some (.ref f_law_odd)))
    (l_law_odd : K.lookup f_law_odd = some ⟨oc_law_odd, od_law_odd, .func (PySem.W.fnOf "_law_odd" "_law_odd" (defArgs (top 33)) (defBody (top 33)) (defScope (top 33)) .none kV_law_odd dc_law_odd pm_law_odd an_law_odd cd_law_odd ct_law_odd), sl_law_odd⟩)
    (c_law_odd : PySem.W.codeIn K cd_law_odd "_law_odd" = true)
    (k_law_odd : PySem.W.keepIn K (.ref f_law_odd) = true)
    (a_law_heaps : PySem.W.nsIn K mainGlobals "_law_heaps" = some (some (.ref f_law_heaps)))
    (l_law_heaps : K.lookup f_law_heaps = some ⟨oc_law_heaps, od_law_heaps, .func (PySem.W.fnOf "_law_heaps" "_law_heaps" (defArgs (top 27)) (defBody (top 27)) (defScope (top 27)) .none kV_law_heaps dc_law_heaps pm_law_heaps an_law_heaps cd_law_heaps ct_law_heaps), sl_law_heaps⟩)
    (c_law_heaps : PySem.W.codeIn K cd_law_heaps "_law_heaps" = true)
    (k_law_heaps : PySem.W.keepIn K (.ref f_law_heaps) = true)
    (a_law_some : PySem.W.nsIn K mainGlobals "_law_some" = some (some (.ref f_law_some)))
    (l_law_some : K.lookup f_law_some = some ⟨oc_law_some, od_law_some, .func (PySem.W.fnOf "_law_some" "_law_some" (defArgs (top 34)) (defBody (top 34)) (defScope (top 34)) .none kV_law_some dc_law_some pm_law_some an_law_some cd_law_some ct_law_some), sl_law_some⟩)
    (c_law_some : PySem.W.codeIn K cd_law_some "_law_some" = true)
    (k_law_some : PySem.W.keepIn K (.ref f_law_some) = true)
    (a_is_integer : PySem.W.nsIn K mainGlobals "is_integer" = some (some (.ref f_is_integer)))
    (l_is_integer : K.lookup f_is_integer = some ⟨oc_is_integer, od_is_integer, .func (PySem.W.fnOf "is_integer" "is_integer" (defArgs (top 7)) (defBody (top 7)) (defScope (top 7)) .none kV_is_integer dc_is_integer pm_is_integer an_is_integer cd_is_integer ct_is_integer), sl_is_integer⟩)
    (c_is_integer : PySem.W.codeIn K cd_is_integer "is_integer" = true)
    (k_is_integer : PySem.W.keepIn K (.ref f_is_integer) = true)
    (a_is_from : PySem.W.nsIn K mainGlobals "is_from" = some (some (.ref f_is_from)))
    (l_is_from : K.lookup f_is_from = some ⟨oc_is_from, od_is_from, .func (PySem.W.fnOf "is_from" "is_from" (defArgs (top 8)) (defBody (top 8)) (defScope (top 8)) .none kV_is_from dc_is_from pm_is_from an_is_from cd_is_from ct_is_from), sl_is_from⟩)
    (c_is_from : PySem.W.codeIn K cd_is_from "is_from" = true)
    (k_is_from : PySem.W.keepIn K (.ref f_is_from) = true)
    (a_check_heaps : PySem.W.nsIn K mainGlobals "check_heaps" = some (some (.ref f_check_heaps)))
    (l_check_heaps : K.lookup f_check_heaps = some ⟨oc_check_heaps, od_check_heaps, .func (PySem.W.fnOf "check_heaps" "check_heaps" (defArgs (top 9)) (defBody (top 9)) (defScope (top 9)) .none kV_check_heaps dc_check_heaps pm_check_heaps an_check_heaps cd_check_heaps ct_check_heaps), sl_check_heaps⟩)
    (c_check_heaps : PySem.W.codeIn K cd_check_heaps "check_heaps" = true)
    (k_check_heaps : PySem.W.keepIn K (.ref f_check_heaps) = true)
    (a_behind : PySem.W.nsIn K mainGlobals "behind" = some (some (.ref f_behind)))
    (l_behind : K.lookup f_behind = some ⟨oc_behind, od_behind, .func (PySem.W.fnOf "behind" "behind" (defArgs (top 10)) (defBody (top 10)) (defScope (top 10)) .none kV_behind dc_behind pm_behind an_behind cd_behind ct_behind), sl_behind⟩)
    (c_behind : PySem.W.codeIn K cd_behind "behind" = true)
    (k_behind : PySem.W.keepIn K (.ref f_behind) = true)
    (a_round_of : PySem.W.nsIn K mainGlobals "round_of" = some (some (.ref f_round_of)))
    (l_round_of : K.lookup f_round_of = some ⟨oc_round_of, od_round_of, .func (PySem.W.fnOf "round_of" "round_of" (defArgs (top 18)) (defBody (top 18)) (defScope (top 18)) .none kV_round_of dc_round_of pm_round_of an_round_of cd_round_of ct_round_of), sl_round_of⟩)
    (c_round_of : PySem.W.codeIn K cd_round_of "round_of" = true)
    (k_round_of : PySem.W.keepIn K (.ref f_round_of) = true)
    (a_emptied : PySem.W.nsIn K mainGlobals "emptied" = some (some (.ref f_emptied)))
    (l_emptied : K.lookup f_emptied = some ⟨oc_emptied, od_emptied, .func (PySem.W.fnOf "emptied" "emptied" (defArgs (top 19)) (defBody (top 19)) (defScope (top 19)) .none kV_emptied dc_emptied pm_emptied an_emptied (.ref kk_emptied) ct_emptied), sl_emptied⟩)
    (c_emptied : PySem.W.codeIn K (.ref kk_emptied) "emptied" = true)
    (hc_emptied : PySem.W.codeHdIn K kk_emptied (tabK K kk_emptied) = true)
    (nl_emptied : (K.lookup (tabK K kk_emptied)).isNone = true)
    (tm_emptied : ts.contains (tabK K kk_emptied) = true)
    (k_emptied : PySem.W.keepIn K (.ref f_emptied) = true)
    (a_full_places : PySem.W.nsIn K mainGlobals "full_places" = some (some (.ref f_full_places)))
    (l_full_places : K.lookup f_full_places = some ⟨oc_full_places, od_full_places, .func (PySem.W.fnOf "full_places" "full_places" (defArgs (top 17)) (defBody (top 17)) (defScope (top 17)) .none kV_full_places dc_full_places pm_full_places an_full_places (.ref kk_full_places) ct_full_places), sl_full_places⟩)
    (c_full_places : PySem.W.codeIn K (.ref kk_full_places) "full_places" = true)
    (hc_full_places : PySem.W.codeHdIn K kk_full_places (tabK K kk_full_places) = true)
    (nl_full_places : (K.lookup (tabK K kk_full_places)).isNone = true)
    (tm_full_places : ts.contains (tabK K kk_full_places) = true)
    (k_full_places : PySem.W.keepIn K (.ref f_full_places) = true)
    (a_empty_plan : PySem.W.nsIn K mainGlobals "empty_plan" = some (some (.ref f_empty_plan)))
    (l_empty_plan : K.lookup f_empty_plan = some ⟨oc_empty_plan, od_empty_plan, .func (PySem.W.fnOf "empty_plan" "empty_plan" (defArgs (top 20)) (defBody (top 20)) (defScope (top 20)) .none kV_empty_plan dc_empty_plan pm_empty_plan an_empty_plan cd_empty_plan ct_empty_plan), sl_empty_plan⟩)
    (c_empty_plan : PySem.W.codeIn K cd_empty_plan "empty_plan" = true)
    (k_empty_plan : PySem.W.keepIn K (.ref f_empty_plan) = true)
    (a_common : PySem.W.nsIn K mainGlobals "common" = some (some (.ref f_common)))
    (l_common : K.lookup f_common = some ⟨oc_common, od_common, .func (PySem.W.fnOf "common" "common" (defArgs (top 12)) (defBody (top 12)) (defScope (top 12)) .none kV_common dc_common pm_common an_common cd_common ct_common), sl_common⟩)
    (c_common : PySem.W.codeIn K cd_common "common" = true)
    (k_common : PySem.W.keepIn K (.ref f_common) = true)
    (a_odd_of : PySem.W.nsIn K mainGlobals "odd_of" = some (some (.ref f_odd_of)))
    (l_odd_of : K.lookup f_odd_of = some ⟨oc_odd_of, od_odd_of, .func (PySem.W.fnOf "odd_of" "odd_of" (defArgs (top 14)) (defBody (top 14)) (defScope (top 14)) .none kV_odd_of dc_odd_of pm_odd_of an_odd_of cd_odd_of ct_odd_of), sl_odd_of⟩)
    (c_odd_of : PySem.W.codeIn K cd_odd_of "odd_of" = true)
    (k_odd_of : PySem.W.keepIn K (.ref f_odd_of) = true)
    (a_odd_by : PySem.W.nsIn K mainGlobals "odd_by" = some (some (.ref f_odd_by)))
    (l_odd_by : K.lookup f_odd_by = some ⟨oc_odd_by, od_odd_by, .func (PySem.W.fnOf "odd_by" "odd_by" (defArgs (top 15)) (defBody (top 15)) (defScope (top 15)) .none kV_odd_by dc_odd_by pm_odd_by an_odd_by cd_odd_by ct_odd_by), sl_odd_by⟩)
    (c_odd_by : PySem.W.codeIn K cd_odd_by "odd_by" = true)
    (k_odd_by : PySem.W.keepIn K (.ref f_odd_by) = true)
    (a_odd_part : PySem.W.nsIn K mainGlobals "odd_part" = some (some (.ref f_odd_part)))
    (l_odd_part : K.lookup f_odd_part = some ⟨oc_odd_part, od_odd_part, .func (PySem.W.fnOf "odd_part" "odd_part" (defArgs (top 16)) (defBody (top 16)) (defScope (top 16)) .none kV_odd_part dc_odd_part pm_odd_part an_odd_part cd_odd_part ct_odd_part), sl_odd_part⟩)
    (c_odd_part : PySem.W.codeIn K cd_odd_part "odd_part" = true)
    (k_odd_part : PySem.W.keepIn K (.ref f_odd_part) = true)
    (a_pair_steps : PySem.W.nsIn K mainGlobals "pair_steps" = some (some (.ref f_pair_steps)))
    (l_pair_steps : K.lookup f_pair_steps = some ⟨oc_pair_steps, od_pair_steps, .func (PySem.W.fnOf "pair_steps" "pair_steps" (defArgs (top 21)) (defBody (top 21)) (defScope (top 21)) .none kV_pair_steps dc_pair_steps pm_pair_steps an_pair_steps cd_pair_steps ct_pair_steps), sl_pair_steps⟩)
    (c_pair_steps : PySem.W.codeIn K cd_pair_steps "pair_steps" = true)
    (k_pair_steps : PySem.W.keepIn K (.ref f_pair_steps) = true)
    (a_one_plan : PySem.W.nsIn K mainGlobals "one_plan" = some (some (.ref f_one_plan)))
    (l_one_plan : K.lookup f_one_plan = some ⟨oc_one_plan, od_one_plan, .func (PySem.W.fnOf "one_plan" "one_plan" (defArgs (top 23)) (defBody (top 23)) (defScope (top 23)) .none kV_one_plan dc_one_plan pm_one_plan an_one_plan cd_one_plan ct_one_plan), sl_one_plan⟩)
    (c_one_plan : PySem.W.codeIn K cd_one_plan "one_plan" = true)
    (k_one_plan : PySem.W.keepIn K (.ref f_one_plan) = true)
    (a_pair_plan : PySem.W.nsIn K mainGlobals "pair_plan" = some (some (.ref f_pair_plan)))
    (l_pair_plan : K.lookup f_pair_plan = some ⟨oc_pair_plan, od_pair_plan, .func (PySem.W.fnOf "pair_plan" "pair_plan" (defArgs (top 22)) (defBody (top 22)) (defScope (top 22)) .none kV_pair_plan dc_pair_plan pm_pair_plan an_pair_plan cd_pair_plan ct_pair_plan), sl_pair_plan⟩)
    (c_pair_plan : PySem.W.codeIn K cd_pair_plan "pair_plan" = true)
    (k_pair_plan : PySem.W.keepIn K (.ref f_pair_plan) = true)
    (a_law : PySem.W.nsIn K mainGlobals "law" = some (some (.ref f_law)))
    (l_law : K.lookup f_law = some ⟨oc_law, od_law, .func (PySem.W.fnOf "law" "law" (defArgs (top 36)) (defBody (top 36)) (defScope (top 36)) .none kV_law dc_law pm_law an_law cd_law ct_law), sl_law⟩)
    (c_law : PySem.W.codeIn K cd_law "law" = true)
    (k_law : PySem.W.keepIn K (.ref f_law) = true)
    (a_law_mix : PySem.W.nsIn K mainGlobals "_law_mix" = some (some (.ref f_law_mix)))
    (l_law_mix : K.lookup f_law_mix = some ⟨oc_law_mix, od_law_mix, .func (PySem.W.fnOf "_law_mix" "_law_mix" (defArgs (top 25)) (defBody (top 25)) (defScope (top 25)) .none kV_law_mix dc_law_mix pm_law_mix an_law_mix cd_law_mix ct_law_mix), sl_law_mix⟩)
    (c_law_mix : PySem.W.codeIn K cd_law_mix "_law_mix" = true)
    (k_law_mix : PySem.W.keepIn K (.ref f_law_mix) = true)
    (a_law_next : PySem.W.nsIn K mainGlobals "_law_next" = some (some (.ref f_law_next)))
    (l_law_next : K.lookup f_law_next = some ⟨oc_law_next, od_law_next, .func (PySem.W.fnOf "_law_next" "_law_next" (defArgs (top 26)) (defBody (top 26)) (defScope (top 26)) .none kV_law_next dc_law_next pm_law_next an_law_next cd_law_next ct_law_next), sl_law_next⟩)
    (c_law_next : PySem.W.codeIn K cd_law_next "_law_next" = true)
    (k_law_next : PySem.W.keepIn K (.ref f_law_next) = true)
    (ne_emptied_full_places : (tabK K kk_emptied == tabK K kk_full_places) = false)
    (b_bool : PySem.W.nsIn K mainGlobals "bool" = some none)
    (b_enumerate : PySem.W.nsIn K mainGlobals "enumerate" = some none)
    (b_int : PySem.W.nsIn K mainGlobals "int" = some none)
    (b_isinstance : PySem.W.nsIn K mainGlobals "isinstance" = some none)
    (b_len : PySem.W.nsIn K mainGlobals "len" = some none)
    (b_list : PySem.W.nsIn K mainGlobals "list" = some none)
    (b_max : PySem.W.nsIn K mainGlobals "max" = some none)
    (b_min : PySem.W.nsIn K mainGlobals "min" = some none)
    (b_range : PySem.W.nsIn K mainGlobals "range" = some none)
    (b_sorted : PySem.W.nsIn K mainGlobals "sorted" = some none)
    (b_sum : PySem.W.nsIn K mainGlobals "sum" = some none)
    (b_tuple : PySem.W.nsIn K mainGlobals "tuple" = some none)
    (v_LEAST_HEAPS : ∃ t, mg "LEAST_HEAPS" = some (.int 2 t))
    (v_MOST_HEAPS : ∃ t, mg "MOST_HEAPS" = some (.int 6 t))
    (v_MOST_IN_HEAP : ∃ t, mg "MOST_IN_HEAP" = some (.int 1000000000000000000000000000000 t))
    (g_BadHeaps : PySem.W.nsIn K mainGlobals "BadHeaps" = some (some (.ref C_BadHeaps)))
    (kc_BadHeaps : PySem.W.keepIn K (.ref C_BadHeaps) = true)
    (sb_BadHeaps : PySem.W.subIn K (.ref C_BadHeaps) (.type "BaseException") = some true)
    (ty_BadHeaps : PySem.W.typeIn K (.ref C_BadHeaps) = some (.type "type"))
    (ex_BadHeaps : PySem.W.excIn K C_BadHeaps [.type "ValueError", .type "Exception", .type "BaseException", .type "object"] "ValueError.__new__" = true)
    : ∃ (fd : FuncData) (cs : List (Addr × Addr)) (qs : List (Addr × Str)), (∀ p ∈ cs, p.2 ∈ ts ∧ K.lookup p.2 = none ∧ PySem.W.codeHdIn K p.1 p.2 = true) ∧ (∀ p ∈ qs, ∃ c, (c, p.1) ∈ cs) ∧ (∀ (s : Shared) (v : Value), BindsTo s fd ⟨[v], []⟩ [("_law_script", v)]) ∧ ∀ base : Heap, K.In base → base.Ns mainGlobals mg → (∀ p ∈ cs, LamX.TabB base mg p.1 p.2) → FnOk P w K mg base (L2.CX P w) 5 fa fd ["_law_script"] (@spLaw ⟨qs⟩ K) := by
  have e := hfa.symm.trans (PySem.W.mg_of X G a_law)
  cases e
  refine ⟨PySem.W.fnOf "law" "law" (defArgs (top 36)) (defBody (top 36)) (defScope (top 36)) .none kV_law dc_law pm_law an_law cd_law ct_law, [(kk_emptied, tabK K kk_emptied), (kk_full_places, tabK K kk_full_places)], [(tabK K kk_emptied, (("emptied" : Str) ++ ".<locals>." ++ "<lambda>")), (tabK K kk_full_places, (("full_places" : Str) ++ ".<locals>." ++ "<lambda>"))], fun p hp => ?_, fun p hp => ?_, fun s v => .of_eq rfl, fun base _ _ hTB => ?_⟩
  · simp only [List.mem_cons, List.not_mem_nil, or_false] at hp
    rcases hp with rfl | rfl
    · exact ⟨by simpa using tm_emptied, by simpa using nl_emptied, hc_emptied⟩
    · exact ⟨by simpa using tm_full_places, by simpa using nl_full_places, hc_full_places⟩
  · simp only [List.mem_cons, List.not_mem_nil, or_false] at hp
    rcases hp with rfl | rfl
    · exact ⟨kk_emptied, by simp⟩
    · exact ⟨kk_full_places, by simp⟩
  letI : Tbs := ⟨[(tabK K kk_emptied, (("emptied" : Str) ++ ".<locals>." ++ "<lambda>")), (tabK K kk_full_places, (("full_places" : Str) ++ ".<locals>." ++ "<lambda>"))]⟩
  have u_emptied : ∀ p ∈ Tbs.T, p.1 = tabK K kk_emptied → p.2 = (("emptied" : Str) ++ ".<locals>." ++ "<lambda>") := by
    intro p hp e
    have hp : p ∈ [(tabK K kk_emptied, (("emptied" : Str) ++ ".<locals>." ++ "<lambda>")), (tabK K kk_full_places, (("full_places" : Str) ++ ".<locals>." ++ "<lambda>"))] := hp
    simp only [List.mem_cons, List.not_mem_nil, or_false] at hp
    rcases hp with rfl | rfl
    · rfl
    · exact absurd (e : tabK K kk_full_places = tabK K kk_emptied).symm (by simpa using ne_emptied_full_places)
  have u_full_places : ∀ p ∈ Tbs.T, p.1 = tabK K kk_full_places → p.2 = (("full_places" : Str) ++ ".<locals>." ++ "<lambda>") := by
    intro p hp e
    have hp : p ∈ [(tabK K kk_emptied, (("emptied" : Str) ++ ".<locals>." ++ "<lambda>")), (tabK K kk_full_places, (("full_places" : Str) ++ ".<locals>." ++ "<lambda>"))] := hp
    simp only [List.mem_cons, List.not_mem_nil, or_false] at hp
    rcases hp with rfl | rfl
    · exact absurd (e : tabK K kk_emptied = tabK K kk_full_places) (by simpa using ne_emptied_full_places)
    · rfl
  have T : Txt K mg base := {
    f_law_full := ⟨_, _, fun_mk (st := top 35) l_law_full c_law_full k_law_full, PySem.W.mg_of X G a_law_full⟩
    f_law_behind := ⟨_, _, fun_mk (st := top 29) l_law_behind c_law_behind k_law_behind, PySem.W.mg_of X G a_law_behind⟩
    f_law_can := ⟨_, _, fun_mk (st := top 28) l_law_can c_law_can k_law_can, PySem.W.mg_of X G a_law_can⟩
    f_law_pairs := ⟨_, _, fun_mk (st := top 30) l_law_pairs c_law_pairs k_law_pairs, PySem.W.mg_of X G a_law_pairs⟩
    f_law_gone := ⟨_, _, fun_mk (st := top 31) l_law_gone c_law_gone k_law_gone, PySem.W.mg_of X G a_law_gone⟩
    f_law_part := ⟨_, _, fun_mk (st := top 32) l_law_part c_law_part k_law_part, PySem.W.mg_of X G a_law_part⟩
    f_law_odd := ⟨_, _, fun_mk (st := top 33) l_law_odd c_law_odd k_law_odd, PySem.W.mg_of X G a_law_odd⟩
    f_law_heaps := ⟨_, _, fun_mk (st := top 27) l_law_heaps c_law_heaps k_law_heaps, PySem.W.mg_of X G a_law_heaps⟩
    f_law_some := ⟨_, _, fun_mk (st := top 34) l_law_some c_law_some k_law_some, PySem.W.mg_of X G a_law_some⟩
    f_is_integer := ⟨_, _, fun_mk (st := top 7) l_is_integer c_is_integer k_is_integer, PySem.W.mg_of X G a_is_integer⟩
    f_is_from := ⟨_, _, fun_mk (st := top 8) l_is_from c_is_from k_is_from, PySem.W.mg_of X G a_is_from⟩
    f_check_heaps := ⟨_, _, fun_mk (st := top 9) l_check_heaps c_check_heaps k_check_heaps, PySem.W.mg_of X G a_check_heaps⟩
    f_behind := ⟨_, _, fun_mk (st := top 10) l_behind c_behind k_behind, PySem.W.mg_of X G a_behind⟩
    f_round_of := ⟨_, _, fun_mk (st := top 18) l_round_of c_round_of k_round_of, PySem.W.mg_of X G a_round_of⟩
    f_emptied := ⟨_, kk_emptied, _, _, fun_mk (st := top 19) l_emptied c_emptied k_emptied, PySem.W.mg_of X G a_emptied, rfl, hTB _ List.mem_cons_self, List.mem_cons_self, u_emptied⟩
    f_full_places := ⟨_, kk_full_places, _, _, fun_mk (st := top 17) l_full_places c_full_places k_full_places, PySem.W.mg_of X G a_full_places, rfl, hTB _ (List.mem_cons_of_mem _ List.mem_cons_self), (List.mem_cons_of_mem _ List.mem_cons_self), u_full_places⟩
    f_empty_plan := ⟨_, _, fun_mk (st := top 20) l_empty_plan c_empty_plan k_empty_plan, PySem.W.mg_of X G a_empty_plan⟩
    f_common := ⟨_, _, fun_mk (st := top 12) l_common c_common k_common, PySem.W.mg_of X G a_common⟩
    f_odd_of := ⟨_, _, fun_mk (st := top 14) l_odd_of c_odd_of k_odd_of, PySem.W.mg_of X G a_odd_of⟩
    f_odd_by := ⟨_, _, fun_mk (st := top 15) l_odd_by c_odd_by k_odd_by, PySem.W.mg_of X G a_odd_by⟩
    f_odd_part := ⟨_, _, fun_mk (st := top 16) l_odd_part c_odd_part k_odd_part, PySem.W.mg_of X G a_odd_part⟩
    f_pair_steps := ⟨_, _, fun_mk (st := top 21) l_pair_steps c_pair_steps k_pair_steps, PySem.W.mg_of X G a_pair_steps⟩
    f_one_plan := ⟨_, _, fun_mk (st := top 23) l_one_plan c_one_plan k_one_plan, PySem.W.mg_of X G a_one_plan⟩
    f_pair_plan := ⟨_, _, fun_mk (st := top 22) l_pair_plan c_pair_plan k_pair_plan, PySem.W.mg_of X G a_pair_plan⟩
    f_law := ⟨_, _, fun_mk (st := top 36) l_law c_law k_law, PySem.W.mg_of X G a_law⟩
    f_law_mix := ⟨_, _, fun_mk (st := top 25) l_law_mix c_law_mix k_law_mix, PySem.W.mg_of X G a_law_mix⟩
    f_law_next := ⟨_, _, fun_mk (st := top 26) l_law_next c_law_next k_law_next, PySem.W.mg_of X G a_law_next⟩
    b_bool := PySem.W.mg_none_of X G b_bool
    b_enumerate := PySem.W.mg_none_of X G b_enumerate
    b_int := PySem.W.mg_none_of X G b_int
    b_isinstance := PySem.W.mg_none_of X G b_isinstance
    b_len := PySem.W.mg_none_of X G b_len
    b_list := PySem.W.mg_none_of X G b_list
    b_max := PySem.W.mg_none_of X G b_max
    b_min := PySem.W.mg_none_of X G b_min
    b_range := PySem.W.mg_none_of X G b_range
    b_sorted := PySem.W.mg_none_of X G b_sorted
    b_sum := PySem.W.mg_none_of X G b_sum
    b_tuple := PySem.W.mg_none_of X G b_tuple
    c_LEAST_HEAPS := v_LEAST_HEAPS
    c_MOST_HEAPS := v_MOST_HEAPS
    c_MOST_IN_HEAP := v_MOST_IN_HEAP
    r_BadHeaps := ⟨C_BadHeaps, PySem.W.mg_of X G g_BadHeaps, kc_BadHeaps, ex_BadHeaps, sb_BadHeaps, ty_BadHeaps⟩
  }
  exact ok_law T (fun_mk (st := top 36) l_law c_law k_law)
end Pu
open PySem PySem.W PyProof.Rows
set_option maxRecDepth 100000 in
set_option maxHeartbeats 0 in
theorem PySem.Challenge.cw_heapsdouble_k04_whole_plans_that_empty_holds : PySem.Challenge.rw_heapsdouble_k04_whole_plans_that_empty.Holds := by
  w_on; o_law; k_head; (case hw => w_witness2)
  k_fill
  refine Pu.law_walkT (l := PySem.Challenge.rw_heapsdouble_k04_whole_plans_that_empty) (k := 5) rfl rfl ⟨rfl, by decide, by decide⟩ (fun w g Y => ⟨PySem.W.km_in_of Y, PySem.W.km_tabs_of Y⟩) ?F
  case F =>
    intro w mg fa g KX G LX hmg
    refine' Pu.all_mk KX G hmg ?a_law_full ?l_law_full ?c_law_full ?k_law_full ?a_law_behind ?l_law_behind ?c_law_behind ?k_law_behind ?a_law_can ?l_law_can ?c_law_can ?k_law_can ?a_law_pairs ?l_law_pairs ?c_law_pairs ?k_law_pairs ?a_law_gone ?l_law_gone ?c_law_gone ?k_law_gone ?a_law_part ?l_law_part ?c_law_part ?k_law_part ?a_law_odd ?l_law_odd ?c_law_odd ?k_law_odd ?a_law_heaps ?l_law_heaps ?c_law_heaps ?k_law_heaps ?a_law_some ?l_law_some ?c_law_some ?k_law_some ?a_is_integer ?l_is_integer ?c_is_integer ?k_is_integer ?a_is_from ?l_is_from ?c_is_from ?k_is_from ?a_check_heaps ?l_check_heaps ?c_check_heaps ?k_check_heaps ?a_behind ?l_behind ?c_behind ?k_behind ?a_round_of ?l_round_of ?c_round_of ?k_round_of ?a_emptied ?l_emptied ?c_emptied ?hc_emptied ?nl_emptied ?tm_emptied ?k_emptied ?a_full_places ?l_full_places ?c_full_places ?hc_full_places ?nl_full_places ?tm_full_places ?k_full_places ?a_empty_plan ?l_empty_plan ?c_empty_plan ?k_empty_plan ?a_common ?l_common ?c_common ?k_common ?a_odd_of ?l_odd_of ?c_odd_of ?k_odd_of ?a_odd_by ?l_odd_by ?c_odd_by ?k_odd_by ?a_odd_part ?l_odd_part ?c_odd_part ?k_odd_part ?a_pair_steps ?l_pair_steps ?c_pair_steps ?k_pair_steps ?a_one_plan ?l_one_plan ?c_one_plan ?k_one_plan ?a_pair_plan ?l_pair_plan ?c_pair_plan ?k_pair_plan ?a_law ?l_law ?c_law ?k_law ?a_law_mix ?l_law_mix ?c_law_mix ?k_law_mix ?a_law_next ?l_law_next ?c_law_next ?k_law_next ?ne_emptied_full_places ?b_bool ?b_enumerate ?b_int ?b_isinstance ?b_len ?b_list ?b_max ?b_min ?b_range ?b_sorted ?b_sum ?b_tuple ?v_LEAST_HEAPS ?v_MOST_HEAPS ?v_MOST_IN_HEAP ?g_BadHeaps ?kc_BadHeaps ?sb_BadHeaps ?ty_BadHeaps ?ex_BadHeaps
    (case a_law_full => k_is)
    (case l_law_full => k_is)
    (case c_law_full => k_is)
    (case k_law_full => k_is)
    (case a_law_behind => k_is)
    (case l_law_behind => k_is)
    (case c_law_behind => k_is)
    (case k_law_behind => k_is)
    (case a_law_can => k_is)
    (case l_law_can => k_is)
    (case c_law_can => k_is)
    (case k_law_can => k_is)
    (case a_law_pairs => k_is)
    (case l_law_pairs => k_is)
    (case c_law_pairs => k_is)
    (case k_law_pairs => k_is)
    (case a_law_gone => k_is)
    (case l_law_gone => k_is)
    (case c_law_gone => k_is)
    (case k_law_gone => k_is)
    (case a_law_part => k_is)
    (case l_law_part => k_is)
    (case c_law_part => k_is)
    (case k_law_part => k_is)
    (case a_law_odd => k_is)
    (case l_law_odd => k_is)
    (case c_law_odd => k_is)
    (case k_law_odd => k_is)
    (case a_law_heaps => k_is)
    (case l_law_heaps => k_is)
    (case c_law_heaps => k_is)
    (case k_law_heaps => k_is)
    (case a_law_some => k_is)
    (case l_law_some => k_is)
    (case c_law_some => k_is)
    (case k_law_some => k_is)
    (case a_is_integer => k_is)
    (case l_is_integer => k_is)
    (case c_is_integer => k_is)
    (case k_is_integer => k_is)
    (case a_is_from => k_is)
    (case l_is_from => k_is)
    (case c_is_from => k_is)
    (case k_is_from => k_is)
    (case a_check_heaps => k_is)
    (case l_check_heaps => k_is)
    (case c_check_heaps => k_is)
    (case k_check_heaps => k_is)
    (case a_behind => k_is)
    (case l_behind => k_is)
    (case c_behind => k_is)
    (case k_behind => k_is)
    (case a_round_of => k_is)
    (case l_round_of => k_is)
    (case c_round_of => k_is)
    (case k_round_of => k_is)
    (case a_emptied => k_is)
    (case l_emptied => k_is)
    (case c_emptied => k_is)
    (case hc_emptied => first | rfl | k_is)
    (case nl_emptied => first | rfl | k_is)
    (case tm_emptied => first | rfl | k_is)
    (case k_emptied => k_is)
    (case a_full_places => k_is)
    (case l_full_places => k_is)
    (case c_full_places => k_is)
    (case hc_full_places => first | rfl | k_is)
    (case nl_full_places => first | rfl | k_is)
    (case tm_full_places => first | rfl | k_is)
    (case k_full_places => k_is)
    (case a_empty_plan => k_is)
    (case l_empty_plan => k_is)
    (case c_empty_plan => k_is)
    (case k_empty_plan => k_is)
    (case a_common => k_is)
    (case l_common => k_is)
    (case c_common => k_is)
    (case k_common => k_is)
    (case a_odd_of => k_is)
    (case l_odd_of => k_is)
    (case c_odd_of => k_is)
    (case k_odd_of => k_is)
    (case a_odd_by => k_is)
    (case l_odd_by => k_is)
    (case c_odd_by => k_is)
    (case k_odd_by => k_is)
    (case a_odd_part => k_is)
    (case l_odd_part => k_is)
    (case c_odd_part => k_is)
    (case k_odd_part => k_is)
    (case a_pair_steps => k_is)
    (case l_pair_steps => k_is)
    (case c_pair_steps => k_is)
    (case k_pair_steps => k_is)
    (case a_one_plan => k_is)
    (case l_one_plan => k_is)
    (case c_one_plan => k_is)
    (case k_one_plan => k_is)
    (case a_pair_plan => k_is)
    (case l_pair_plan => k_is)
    (case c_pair_plan => k_is)
    (case k_pair_plan => k_is)
    (case a_law => k_is)
    (case l_law => k_is)
    (case c_law => k_is)
    (case k_law => k_is)
    (case a_law_mix => k_is)
    (case l_law_mix => k_is)
    (case c_law_mix => k_is)
    (case k_law_mix => k_is)
    (case a_law_next => k_is)
    (case l_law_next => k_is)
    (case c_law_next => k_is)
    (case k_law_next => k_is)
    (case ne_emptied_full_places => first | rfl | k_is)
    (case b_bool => k_is)
    (case b_enumerate => k_is)
    (case b_int => k_is)
    (case b_isinstance => k_is)
    (case b_len => k_is)
    (case b_list => k_is)
    (case b_max => k_is)
    (case b_min => k_is)
    (case b_range => k_is)
    (case b_sorted => k_is)
    (case b_sum => k_is)
    (case b_tuple => k_is)
    (case v_LEAST_HEAPS => exact ⟨_, PySem.W.mg_of KX G (by k_is)⟩)
    (case v_MOST_HEAPS => exact ⟨_, PySem.W.mg_of KX G (by k_is)⟩)
    (case v_MOST_IN_HEAP => exact Pu.loose_int LX (by simp))
    (case g_BadHeaps => k_is)
    (case kc_BadHeaps => k_is)
    (case sb_BadHeaps => k_is)
    (case ty_BadHeaps => k_is)
    (case ex_BadHeaps => k_exc)

