import PyProof.Rows.All
import Wide.All
import OpenK.AllK
import Wide.FinOn
import Lean
import HandS.Base
import HandS.Call
import HandS.List
import HandS.Comp
import HandS.Dict
import HandS.Iter
import HandS.Text
import HandS.Ends
import HandS.More
import HandS.Exc
import HandS.ExcOwn
import HandS.TryOnly
import HandS.CallSlots
import HandS.ExcIs
import HandS.IsInst
import HandS.Style
import HandS.Conv
import HandS.Walk
import HandS.Wide
import HandS.SortInts
import HandS.Sort
import HandS.SortRule
import HandS.Strs
import HandS.Words
import HandS.WordsExc
import HandS.Defaults
import HandS.Flow
import HandS.NoneIn
import HandS.Head0
import HandS.Head1
import HandS.Head2
import HandS.HeadEnd
import HandS.HeadHook1
import HandS.HeadHook2
import HandS.Lambda
import KE.DataMinMax
import KE.SortData
import HandS.Zip
import HandS.SetFor
import PySem.Challenge.RW_scrolledlists_k23_whole_pages
set_option Elab.async false
set_option linter.all false
set_option maxRecDepth 100000
set_option maxHeartbeats 2000000
/-! A pure reading of a Python text: what each piece of syntax gives, as a Lean function over plain data. -/
namespace Pg
open PySem PySem.Spec PyProof.Rows L2

/-- a lambda of the text -/
structure LamCode where
  id : Nat
  qual : PySem.Str
  params : Arguments
  body : Expr
  scope : Scope
/-- the names that it captures -/
def LamCode.caps (lc : LamCode) : List PySem.Str := lc.scope.names.filterMap fun y => match y.2 with
  | .free => some y.1
  | _ => none
/-- a function object of that text -/
def LamO (f : Addr) (lc : LamCode) (cl : List (PySem.Str × Addr)) : HO := .ext fun h => ∃ (pm ctv : Value) (c : Addr), h.get? f = some (PySem.W.kla_obj "<lambda>" lc.qual lc.params lc.body lc.scope cl pm c ctv)
def CellO (c : Addr) (v : V) : HO := .ext fun h => ∃ u, RelV v u ∧ h.IsCell c (some u)
def dkV (kvs : List (Int × Int)) : List (Key × V) := kvs.map fun p => (.inl p.1, .int p.2)
inductive D where
  | non
  | bl (b : Bool)
  | int (i : Int)
  | str (s : PySem.Str)
  | tup (xs : List D)
  | lst (xs : List D)
  | scr (ns : List Int)
  | adr (a : Addr)
  | fn (x : PySem.Str)
  /-- a dict of ints by ints; true: it is locked -/
  | dic (lk : Bool) (kvs : List (Int × Int))
  /-- a lambda without parameters; what it captures -/
  | thk (lc : LamCode) (cap : List D)
instance : Inhabited D := ⟨.non⟩

/-! ### heaps -/
def Ex (H H' : Hp) : Prop := ∀ a o, H a = some o → H' a = some o
theorem Ex.refl (H : Hp) : Ex H H := fun _ _ h => h
theorem Ex.trans {H H1 H2 : Hp} (a : Ex H H1) (b : Ex H1 H2) : Ex H H2 := fun x o h => b x o (a x o h)
theorem Ex.new {H : Hp} {p : Addr} {o : HO} (h : H p = none) : Ex H (upd H p o) := fun a u e => by
  rw [upd_ne (ne_of_none e h)]
  exact e
theorem Ex.back {H H' : Hp} {p : Addr} (e : Ex H H') (h : H' p = none) : H p = none := by
  cases h1 : H p with
  | none => rfl
  | some o =>
    rw [e p o h1] at h
    cases h
theorem ex_rd {H H' : Hp} {a : Addr} {u : HO} (e : Ex H H') (h : Rd H a u) : Rd H' a u := by
  rcases h with h | ⟨o, h⟩
  · exact Or.inl (e a _ h)
  · exact Or.inr ⟨o, e a _ h⟩
theorem ex_l {K : PySem.W.Frag} {H H' : Hp} {a : Addr} {xs : List V} (e : Ex H H') (h : SqL K H a xs) : SqL K H' a xs := by
  rcases h with h | h
  · exact Or.inl (ex_rd e h)
  · exact Or.inr h
theorem ex_t {K : PySem.W.Frag} {H H' : Hp} {a : Addr} {xs : List V} (e : Ex H H') (h : SqT K H a xs) : SqT K H' a xs := by
  rcases h with h | h
  · exact Or.inl (ex_rd e h)
  · exact Or.inr h
/-- the frozen part G of H grows to G', H to H' -/
structure Ext (G H G' H' : Hp) : Prop where
  g : Ex G G'
  h : Ex H H'
  s : Ex G' H'
  n : ∀ a o, G' a = some o → G a = none → H a = none
theorem Ext.refl {G H : Hp} (s : Ex G H) : Ext G H G H := ⟨Ex.refl _, Ex.refl _, s, fun a o e n => by rw [n] at e; cases e⟩
theorem Ext.trans {G H G1 H1 G2 H2 : Hp} (a : Ext G H G1 H1) (b : Ext G1 H1 G2 H2) : Ext G H G2 H2 := ⟨a.g.trans b.g, a.h.trans b.h, b.s, fun x o e n => by
  cases q : G1 x with
  | none => exact a.h.back (b.n x o e q)
  | some u => exact a.n x u q n⟩
theorem Ext.new {G H : Hp} {p : Addr} {o : HO} (s : Ex G H) (h : H p = none) : Ext G H (upd G p o) (upd H p o) := by
  refine ⟨Ex.new (s.back h), Ex.new h, fun a u e => ?_, fun a u e n => ?_⟩
  · by_cases q : a = p
    · subst q
      rw [upd_same] at e ⊢
      exact e
    · rw [upd_ne q] at e ⊢
      exact s a u e
  · by_cases q : a = p
    · subst q
      exact h
    · rw [upd_ne q, n] at e
      cases e
/-- H alone grows -/
theorem Ext.top {G H H' : Hp} (s : Ex G H) (h : Ex H H') : Ext G H G H' := ⟨Ex.refl _, h, s.trans h, fun a o e n => by rw [n] at e; cases e⟩
theorem Ext.newH {G H : Hp} {p : Addr} {o : HO} (s : Ex G H) (h : H p = none) : Ext G H G (upd H p o) := Ext.top s (Ex.new h)

/-! ### what a value denotes -/
/-- the captured names' cells hold these values -/
def CapsOk (H : Hp) (cl : List (PySem.Str × Addr)) (xs : List PySem.Str) (vs : List V) : Prop := vs.length = xs.length ∧ ∀ (i : Nat) (x : PySem.Str), xs[i]? = some x → ∃ c v, cl.lookup x = some c ∧ vs[i]? = some v ∧ H c = some (CellO c v)
theorem CapsOk.mono {H H' : Hp} (e : Ex H H') {cl : List (PySem.Str × Addr)} {xs : List PySem.Str} {vs : List V} (h : CapsOk H cl xs vs) : CapsOk H' cl xs vs := ⟨h.1, fun i x q => by
  obtain ⟨c, v, a, b, d⟩ := h.2 i x q
  exact ⟨c, v, a, b, e _ _ d⟩⟩
mutual
inductive Den (K : PySem.W.Frag) (H : Hp) : V → D → Prop
  | non : Den K H .non .non
  | bl (b : Bool) : Den K H (.bl b) (.bl b)
  | int (i : Int) : Den K H (.int i) (.int i)
  | str (x : PySem.Str) : Den K H (.str x) (.str x)
  | adr (a : Addr) : Den K H (.ref a) (.adr a)
  | fn (x : PySem.Str) : Den K H (.ref (He.ga K x)) (.fn x)
  | lst {a : Addr} {xs : List V} {ds : List D} : H a = some (.lst xs) → Dens K H xs ds → Den K H (.ref a) (.lst ds)
  | tup {a : Addr} {xs : List V} {ds : List D} : SqT K H a xs → Dens K H xs ds → Den K H (.ref a) (.tup ds)
  | scr {a : Addr} {ns : List Int} : SqL K H a (ns.map V.int) → Den K H (.ref a) (.scr ns)
  | dic {a : Addr} {kvs : List (Int × Int)} : H a = some (.dK (dkV kvs)) → Den K H (.ref a) (.dic false kvs)
  | dicL {a : Addr} {o : Obj} {kvs : List (Int × Int)} : H a = some (.frz o (.dK (dkV kvs))) → Den K H (.ref a) (.dic true kvs)
  | thk {f : Addr} {lc : LamCode} {cl : List (PySem.Str × Addr)} {vs : List V} {ds : List D} : H f = some (LamO f lc cl) → CapsOk H cl lc.caps vs → Dens K H vs ds → Den K H (.ref f) (.thk lc ds)
inductive Dens (K : PySem.W.Frag) (H : Hp) : List V → List D → Prop
  | nil : Dens K H [] []
  | cons {v : V} {vs : List V} {d : D} {ds : List D} : Den K H v d → Dens K H vs ds → Dens K H (v :: vs) (d :: ds)
end
section
variable {K : PySem.W.Frag} {H H' : Hp}
mutual
theorem Den.mono (e : Ex H H') : ∀ {v : V} {d : D}, Den K H v d → Den K H' v d
  | _, _, .non => .non
  | _, _, .bl b => .bl b
  | _, _, .int i => .int i
  | _, _, .str x => .str x
  | _, _, .adr a => .adr a
  | _, _, .fn x => .fn x
  | _, _, .lst h r => .lst (e _ _ h) (Dens.mono e r)
  | _, _, .tup h r => .tup (ex_t e h) (Dens.mono e r)
  | _, _, .scr h => .scr (ex_l e h)
  | _, _, .dic h => .dic (e _ _ h)
  | _, _, .dicL h => .dicL (e _ _ h)
  | _, _, .thk h c r => .thk (e _ _ h) (c.mono e) (Dens.mono e r)
theorem Dens.mono (e : Ex H H') : ∀ {vs : List V} {ds : List D}, Dens K H vs ds → Dens K H' vs ds
  | _, _, .nil => .nil
  | _, _, .cons h r => .cons (Den.mono e h) (Dens.mono e r)
end
theorem Dens.length : ∀ {vs : List V} {ds : List D}, Dens K H vs ds → vs.length = ds.length
  | _, _, .nil => rfl
  | _, _, .cons _ r => congrArg Nat.succ (Dens.length r)
theorem Dens.get : ∀ {vs : List V} {ds : List D} {i : Nat} {d : D}, Dens K H vs ds → ds[i]? = some d → ∃ v, vs[i]? = some v ∧ Den K H v d
  | _, _, _, _, .nil, e => by simp at e
  | _, _, 0, _, .cons h r, e => ⟨_, rfl, by cases (Option.some.inj (show some _ = some _ from e)); exact h⟩
  | _, _, i + 1, _, .cons h r, e => by
    obtain ⟨v, a, b⟩ := Dens.get (i := i) r (by simpa using e)
    exact ⟨v, by simpa using a, b⟩
theorem Dens.getV : ∀ {vs : List V} {ds : List D} {i : Nat} {v : V}, Dens K H vs ds → vs[i]? = some v → ∃ d, ds[i]? = some d ∧ Den K H v d
  | _, _, _, _, .nil, e => by simp at e
  | _, _, 0, _, .cons h r, e => ⟨_, rfl, by cases (Option.some.inj (show some _ = some _ from e)); exact h⟩
  | _, _, i + 1, _, .cons h r, e => by
    obtain ⟨v, a, b⟩ := Dens.getV (i := i) r (by simpa using e)
    exact ⟨v, by simpa using a, b⟩
theorem Dens.append : ∀ {vs us : List V} {ds es : List D}, Dens K H vs ds → Dens K H us es → Dens K H (vs ++ us) (ds ++ es)
  | _, _, _, _, .nil, q => q
  | _, _, _, _, .cons h r, q => .cons h (Dens.append r q)
theorem Dens.drop : ∀ {vs : List V} {ds : List D} (n : Nat), Dens K H vs ds → Dens K H (vs.drop n) (ds.drop n)
  | _, _, 0, r => r
  | _, _, n + 1, .nil => by simpa using Dens.nil
  | _, _, n + 1, .cons h r => by simpa using Dens.drop n r
theorem Dens.take : ∀ {vs : List V} {ds : List D} (n : Nat), Dens K H vs ds → Dens K H (vs.take n) (ds.take n)
  | _, _, 0, r => by simpa using Dens.nil
  | _, _, n + 1, .nil => by simpa using Dens.nil
  | _, _, n + 1, .cons h r => by simpa using Dens.cons h (Dens.take n r)
theorem Dens.reverse : ∀ {vs : List V} {ds : List D}, Dens K H vs ds → Dens K H vs.reverse ds.reverse
  | _, _, .nil => .nil
  | _, _, .cons h r => by
    rw [List.reverse_cons, List.reverse_cons]
    exact (Dens.reverse r).append (.cons h .nil)
theorem Dens.one {v : V} {ds : List D} (h : Dens K H [v] ds) : ∃ d, ds = [d] ∧ Den K H v d := by
  cases h with
  | cons a r => cases r; exact ⟨_, rfl, a⟩
theorem dens_ints : ∀ (ns : List Int), Dens K H (ns.map V.int) (ns.map D.int)
  | [] => .nil
  | n :: r => .cons (.int n) (dens_ints r)
theorem dens_bls : ∀ (ns : List Bool), Dens K H (ns.map V.bl) (ns.map D.bl)
  | [] => .nil
  | n :: r => .cons (.bl n) (dens_bls r)
theorem dens_strs : ∀ (ns : List PySem.Str), Dens K H (ns.map V.str) (ns.map D.str)
  | [] => .nil
  | n :: r => .cons (.str n) (dens_strs r)
theorem Den.int_inv {v : V} {i : Int} (h : Den K H v (.int i)) : v = .int i := by cases h; rfl
theorem Den.bl_inv {v : V} {i : Bool} (h : Den K H v (.bl i)) : v = .bl i := by cases h; rfl
theorem Den.str_inv {v : V} {i : PySem.Str} (h : Den K H v (.str i)) : v = .str i := by cases h; rfl
theorem Den.non_inv {v : V} (h : Den K H v .non) : v = .non := by cases h; rfl
theorem Dens.ints_inv : ∀ {vs : List V} {ns : List Int}, Dens K H vs (ns.map D.int) → vs = ns.map V.int
  | _, [], h => by cases h; rfl
  | _, n :: r, h => by
    cases h with
    | cons a b => rw [a.int_inv, Dens.ints_inv b]; rfl
theorem Dens.bls_inv : ∀ {vs : List V} {ns : List Bool}, Dens K H vs (ns.map D.bl) → vs = ns.map V.bl
  | _, [], h => by cases h; rfl
  | _, n :: r, h => by
    cases h with
    | cons a b => rw [a.bl_inv, Dens.bls_inv b]; rfl
theorem Dens.strs_inv : ∀ {vs : List V} {ns : List PySem.Str}, Dens K H vs (ns.map D.str) → vs = ns.map V.str
  | _, [], h => by cases h; rfl
  | _, n :: r, h => by
    cases h with
    | cons a b => rw [a.str_inv, Dens.strs_inv b]; rfl
end

/-! ### results -/
inductive R (α : Type) where
  | ok (a : α)
  | rs (c : PySem.Str)
  | no
def R.bind {α β : Type} : R α → (α → R β) → R β
  | .ok a, g => g a
  | .rs c, _ => .rs c
  | .no, _ => .no
def R.map {α β : Type} (g : α → β) : R α → R β
  | .ok a => .ok (g a)
  | .rs c => .rs c
  | .no => .no

inductive Slot where
  | un
  | exc
  | dat (d : D)
  | own (xs : List D)
  | owd (kvs : List (Int × Int))
instance : Inhabited Slot := ⟨.un⟩
abbrev Store := List Slot
abbrev ME := Store → R D
abbrev MT := Store → R Bool
abbrev MA := Store → R (List D)

/-- a thing of the def's own -/
def Slot.mine : Slot → Bool
  | .own _ => true
  | .owd _ => true
  | _ => false
/-- what stands there -/
def Hld (K : PySem.W.Frag) (G : Hp) : Slot → HO → Prop
  | .own xs, .lst vs => Dens K G vs xs
  | .owd kvs, .dK m => m = dkV kvs
  | _, _ => False
theorem Hld.mono {K : PySem.W.Frag} {G G' : Hp} {s : Slot} {o : HO} (e : Ex G G') (h : Hld K G s o) : Hld K G' s o := by
  cases s <;> cases o <;> first
    | exact Dens.mono e h
    | exact h
theorem Hld.mine {K : PySem.W.Frag} {G : Hp} {s : Slot} {o : HO} (h : Hld K G s o) : s.mine = true := by
  cases s <;> cases o <;> first
    | rfl
    | exact h.elim
/-- the slots σ and the heap H hold the store: G is the frozen part of H, H0 the heap at the def's start, ea the exception that a suite holds -/
structure Rel (K : PySem.W.Frag) (ea : Addr) (H0 G H : Hp) (σ : L2.St) (st : Store) : Prop where
  s : Ex G H
  len : st.length = σ.length
  exc : ∀ (i : Nat), st[i]? = some .exc → σ[i]? = some (some (.ref ea))
  dat : ∀ (i : Nat) (d : D), st[i]? = some (.dat d) → ∃ v, σ[i]? = some (some v) ∧ Den K G v d
  own : ∀ (i : Nat) (a : Slot), st[i]? = some a → a.mine = true → ∃ l o, σ[i]? = some (some (.ref l)) ∧ H l = some o ∧ Hld K G a o ∧ G l = none ∧ H0 l = none
  sep : ∀ (i j : Nat) (a b : Slot) (l : Addr), st[i]? = some a → a.mine = true → st[j]? = some b → b.mine = true → σ[i]? = some (some (.ref l)) → σ[j]? = some (some (.ref l)) → i = j
/-- the slot j of a store whose slot i is new -/
theorem set_cases {α : Type} {st : List α} {i j : Nat} {a b : α} (q : (st.set i a)[j]? = some b) : (i = j ∧ i < st.length ∧ a = b) ∨ (i ≠ j ∧ st[j]? = some b) := by
  by_cases z : i = j
  · subst z
    by_cases hl : i < st.length
    · rw [List.getElem?_set_self hl] at q
      exact .inl ⟨rfl, hl, Option.some.inj q⟩
    · rw [List.getElem?_eq_none (by simpa using hl)] at q
      cases q
  · rw [List.getElem?_set_ne z] at q
    exact .inr ⟨z, q⟩
section
variable {K : PySem.W.Frag} {ea : Addr} {H0 G H G' H' : Hp} {σ : L2.St} {st : Store}
theorem Rel.ownL (r : Rel K ea H0 G H σ st) {i : Nat} {xs : List D} (q : st[i]? = some (.own xs)) : ∃ l vs, σ[i]? = some (some (.ref l)) ∧ H l = some (.lst vs) ∧ Dens K G vs xs ∧ G l = none ∧ H0 l = none := by
  obtain ⟨l, o, a, b, c, d⟩ := r.own i _ q rfl
  cases o with
  | lst vs => exact ⟨l, vs, a, b, c, d⟩
  | _ => exact False.elim c
theorem Rel.ownD (r : Rel K ea H0 G H σ st) {i : Nat} {kvs : List (Int × Int)} (q : st[i]? = some (.owd kvs)) : ∃ l, σ[i]? = some (some (.ref l)) ∧ H l = some (.dK (dkV kvs)) ∧ G l = none ∧ H0 l = none := by
  obtain ⟨l, o, a, b, c, d⟩ := r.own i _ q rfl
  cases o with
  | dK m => exact ⟨l, a, by rw [b, show m = dkV kvs from c], d⟩
  | _ => exact False.elim c
theorem Rel.ext (r : Rel K ea H0 G H σ st) (e : Ext G H G' H') : Rel K ea H0 G' H' σ st where
  s := e.s
  len := r.len
  exc := r.exc
  dat := fun i d q => by
    obtain ⟨v, a, b⟩ := r.dat i d q
    exact ⟨v, a, b.mono e.g⟩
  own := fun i a q m => by
    obtain ⟨l, o, a, b, c, d, d0⟩ := r.own i a q m
    refine ⟨l, o, a, e.h _ _ b, c.mono e.g, ?_, d0⟩
    cases z : G' l with
    | none => rfl
    | some o =>
      rw [e.n l o z d] at b
      cases b
  sep := r.sep
/-- one slot anew, no thing of its own -/
theorem Rel.put (r : Rel K ea H0 G H σ st) (i : Nat) (o : Option V) (a : Slot) (ho : a.mine = false) (he : a = .exc → o = some (.ref ea)) (hd : ∀ d, a = .dat d → ∃ v, o = some v ∧ Den K G v d) : Rel K ea H0 G H (σ.set i o) (st.set i a) where
  s := r.s
  len := by rw [List.length_set, List.length_set]; exact r.len
  exc := fun j q => by
    rcases set_cases q with ⟨rfl, hl, e⟩ | ⟨z, q⟩
    · rw [List.getElem?_set_self (by rw [← r.len]; exact hl), he e]
    · rw [List.getElem?_set_ne z]
      exact r.exc j q
  dat := fun j d q => by
    rcases set_cases q with ⟨rfl, hl, e⟩ | ⟨z, q⟩
    · obtain ⟨v, e2, h⟩ := hd d e
      exact ⟨v, by rw [List.getElem?_set_self (by rw [← r.len]; exact hl), e2], h⟩
    · rw [List.getElem?_set_ne z]
      exact r.dat j d q
  own := fun j xs q m => by
    rcases set_cases q with ⟨rfl, hl, e⟩ | ⟨z, q⟩
    · rw [← e, ho] at m; cases m
    · rw [List.getElem?_set_ne z]
      exact r.own j xs q m
  sep := fun j k xs ys l q m q' m' p p' => by
    rcases set_cases q with ⟨rfl, hl, e⟩ | ⟨z, q⟩
    · rw [← e, ho] at m; cases m
    · rcases set_cases q' with ⟨rfl, hl, e⟩ | ⟨z', q'⟩
      · rw [← e, ho] at m'; cases m'
      · rw [List.getElem?_set_ne z] at p
        rw [List.getElem?_set_ne z'] at p'
        exact r.sep j k xs ys l q m q' m' p p'
theorem Rel.set (r : Rel K ea H0 G H σ st) (i : Nat) {v : V} {d : D} (h : Den K G v d) : Rel K ea H0 G H (σ.set i (some v)) (st.set i (.dat d)) :=
  r.put i (some v) (.dat d) rfl (fun z => by cases z) (fun e z => by cases z; exact ⟨v, rfl, h⟩)
/-- a slot is forgotten -/
theorem Rel.forget (r : Rel K ea H0 G H σ st) (i : Nat) (o : Option V) : Rel K ea H0 G H (σ.set i o) (st.set i .un) :=
  r.put i o .un rfl (fun z => by cases z) (fun e z => by cases z)
/-- a new thing of the def's own -/
theorem Rel.setOwnG (r : Rel K ea H0 G H σ st) (i : Nat) {l : Addr} {o : HO} {a : Slot} (hl : H l = none) (h0 : H0 l = none) (h : Hld K G a o) :
    Rel K ea H0 G (upd H l o) (σ.set i (some (.ref l))) (st.set i a) where
  s := fun a o e => by
    have q := r.s a o e
    rw [upd_ne (ne_of_none q hl)]
    exact q
  len := by rw [List.length_set, List.length_set]; exact r.len
  exc := fun j q => by
    rcases set_cases q with ⟨rfl, hl, e⟩ | ⟨z, q⟩
    · rw [e] at h; exact h.elim
    · rw [List.getElem?_set_ne z]
      exact r.exc j q
  dat := fun j d q => by
    rcases set_cases q with ⟨rfl, hl, e⟩ | ⟨z, q⟩
    · rw [e] at h; exact h.elim
    · rw [List.getElem?_set_ne z]
      exact r.dat j d q
  own := fun j ys q m => by
    rcases set_cases q with ⟨rfl, hi, e⟩ | ⟨z, q⟩
    · subst e
      exact ⟨l, o, List.getElem?_set_self (by rw [← r.len]; exact hi), upd_same, h, r.s.back hl, h0⟩
    · obtain ⟨l', vs', a, b, c, d, d0⟩ := r.own j ys q m
      exact ⟨l', vs', by rw [List.getElem?_set_ne z]; exact a, by rw [upd_ne (ne_of_none b hl)]; exact b, c, d, d0⟩
  sep := fun j k ys zs m q m1 q' m2 p p' => by
    rcases set_cases q with ⟨rfl, hi, e⟩ | ⟨z, q⟩
    · rcases set_cases q' with ⟨rfl, hi', e'⟩ | ⟨z', q'⟩
      · rfl
      · rw [List.getElem?_set_self (by rw [← r.len]; exact hi)] at p
        rw [List.getElem?_set_ne z'] at p'
        cases p
        obtain ⟨l', vs', a, b, _⟩ := r.own k zs q' m2
        rw [a] at p'
        cases p'
        rw [hl] at b
        cases b
    · rw [List.getElem?_set_ne z] at p
      rcases set_cases q' with ⟨rfl, hi', e'⟩ | ⟨z', q'⟩
      · rw [List.getElem?_set_self (by rw [← r.len]; exact hi')] at p'
        cases p'
        obtain ⟨l', vs', a, b, _⟩ := r.own j ys q m1
        rw [a] at p
        cases p
        rw [hl] at b
        cases b
      · rw [List.getElem?_set_ne z'] at p'
        exact r.sep j k ys zs m q m1 q' m2 p p'
theorem Rel.setOwn (r : Rel K ea H0 G H σ st) (i : Nat) {l : Addr} {vs : List V} {xs : List D} (hl : H l = none) (h0 : H0 l = none) (h : Dens K G vs xs) :
    Rel K ea H0 G (upd H l (.lst vs)) (σ.set i (some (.ref l))) (st.set i (.own xs)) := r.setOwnG i (a := .own xs) (o := .lst vs) hl h0 h
/-- a thing of the def's own is changed -/
theorem Rel.mutG (r : Rel K ea H0 G H σ st) {i : Nat} {l : Addr} {a a' : Slot} {o' : HO} (q0 : st[i]? = some a) (m0 : a.mine = true) (p0 : σ[i]? = some (some (.ref l))) (h : Hld K G a' o') :
    Rel K ea H0 G (upd H l o') σ (st.set i a') := by
  obtain ⟨l0, vs0, a0, b0, c0, d0, e0⟩ := r.own i a q0 m0
  rw [p0] at a0
  cases a0
  refine ⟨fun a o e => ?_, by rw [List.length_set]; exact r.len, fun j q => ?_, fun j d q => ?_, fun j ys q m => ?_, fun j k ys zs m q m1 q' m2 p p' => ?_⟩
  · rw [upd_ne (ne_of_none e d0)]
    exact r.s a o e
  · rcases set_cases q with ⟨rfl, hl, e⟩ | ⟨z, q⟩
    · rw [e] at h; exact h.elim
    · exact r.exc j q
  · rcases set_cases q with ⟨rfl, hl, e⟩ | ⟨z, q⟩
    · rw [e] at h; exact h.elim
    · exact r.dat j d q
  · rcases set_cases q with ⟨rfl, hi, e⟩ | ⟨z, q⟩
    · subst e
      exact ⟨l, o', p0, upd_same, h, d0, e0⟩
    · obtain ⟨l', ws, a, b, c, d, d'⟩ := r.own j ys q m
      refine ⟨l', ws, a, ?_, c, d, d'⟩
      rw [upd_ne (fun e => z (by subst e; exact r.sep i j _ ys l' q0 m0 q m p0 a))]
      exact b
  · rcases set_cases q with ⟨rfl, hi, e⟩ | ⟨z, q⟩
    · rcases set_cases q' with ⟨rfl, hi', e'⟩ | ⟨z', q'⟩
      · rfl
      · exact r.sep i k _ zs m q0 m0 q' m2 p p'
    · rcases set_cases q' with ⟨rfl, hi', e'⟩ | ⟨z', q'⟩
      · exact r.sep j i ys _ m q m1 q0 m0 p p'
      · exact r.sep j k ys zs m q m1 q' m2 p p'
theorem Rel.mut (r : Rel K ea H0 G H σ st) {i : Nat} {l : Addr} {xs xs' : List D} {vs' : List V} (q0 : st[i]? = some (.own xs)) (p0 : σ[i]? = some (some (.ref l))) (h : Dens K G vs' xs') :
    Rel K ea H0 G (upd H l (.lst vs')) σ (st.set i (.own xs')) := r.mutG (a' := .own xs') (o' := .lst vs') q0 rfl p0 h
/-- own things read as data -/
def thaw1 : Slot → Slot
  | .own xs => .dat (.lst xs)
  | .owd kvs => .dat (.dic false kvs)
  | s => s
def thaw (st : Store) : Store := st.map thaw1
theorem thaw1_mine (a : Slot) : (thaw1 a).mine = false := by cases a <;> rfl
theorem thaw_get {st : Store} {i : Nat} {a : Slot} (h : (thaw st)[i]? = some a) : ∃ b, st[i]? = some b ∧ a = thaw1 b := by
  unfold thaw at h
  rw [List.getElem?_map] at h
  cases q : st[i]? with
  | none => rw [q] at h; cases h
  | some s => rw [q] at h; cases h; exact ⟨s, rfl, rfl⟩
theorem thaw1_den {K : PySem.W.Frag} {G G' : Hp} {l : Addr} {a : Slot} {o : HO} (h : Hld K G a o) (e : Ex G G') (g : G' l = some o) : ∃ d, thaw1 a = .dat d ∧ Den K G' (.ref l) d := by
  cases a with
  | own xs =>
    cases o with
    | lst vs => exact ⟨_, rfl, .lst g (Dens.mono e h)⟩
    | _ => exact False.elim h
  | owd kvs =>
    cases o with
    | dK m =>
      have h : m = dkV kvs := h
      rw [h] at g
      exact ⟨_, rfl, .dic g⟩
    | _ => exact False.elim h
  | _ => cases o <;> exact False.elim h
open Classical in
theorem Rel.thaw (r : Rel K ea H0 G H σ st) {G0 : Hp} (x : Ext G0 H0 G H) : ∃ G', Ext G0 H0 G' H ∧ Ex G G' ∧ Rel K ea H0 G' H σ (thaw st) := by
  let P : Addr → Prop := fun a => ∃ (i : Nat) (b : Slot), st[i]? = some b ∧ b.mine = true ∧ σ[i]? = some (some (V.ref a))
  have own : ∀ a, P a → (∃ o, H a = some o) ∧ G a = none ∧ H0 a = none := fun a ⟨i, xs, q, m, p⟩ => by
    obtain ⟨l, vs, a1, b1, c1, d1, e1⟩ := r.own i xs q m
    rw [p] at a1
    cases a1
    exact ⟨⟨_, b1⟩, d1, e1⟩
  let G' : Hp := fun a => if P a then H a else G a
  have g1 : ∀ a, P a → G' a = H a := fun a h => if_pos h
  have g2 : ∀ a, ¬ P a → G' a = G a := fun a h => if_neg h
  have eG : Ex G G' := fun a o e => by
    by_cases h : P a
    · rw [(own a h).2.1] at e
      cases e
    · rw [g2 a h]
      exact e
  have sG : Ex G' H := fun a o e => by
    by_cases h : P a
    · rw [g1 a h] at e
      exact e
    · rw [g2 a h] at e
      exact r.s a o e
  refine ⟨G', ⟨x.g.trans eG, x.h, sG, fun a o e n => ?_⟩, eG, sG, by unfold Pg.thaw; rw [List.length_map]; exact r.len, fun i q => ?_, fun i d q => ?_, fun i xs q m => ?_, fun i j xs ys l q m => ?_⟩
  · by_cases h : P a
    · exact (own a h).2.2
    · rw [g2 a h] at e
      exact x.n a o e n
  · obtain ⟨b, q2, z⟩ := thaw_get q
    cases b <;> cases z
    exact r.exc i q2
  · obtain ⟨b, q2, z⟩ := thaw_get q
    cases hb : b.mine with
    | true =>
      obtain ⟨l, o, a, b', c, _⟩ := r.own i b q2 hb
      obtain ⟨d', e1, e2⟩ := thaw1_den c eG (show G' l = some o by rw [g1 l ⟨i, b, q2, hb, a⟩]; exact b')
      rw [e1] at z
      cases z
      exact ⟨_, a, e2⟩
    | false =>
      cases b with
      | dat e =>
        cases z
        obtain ⟨v, a, b⟩ := r.dat i d q2
        exact ⟨v, a, b.mono eG⟩
      | un => cases z
      | exc => cases z
      | own _ => cases hb
      | owd _ => cases hb
  · obtain ⟨b, q2, z⟩ := thaw_get q
    rw [z, thaw1_mine] at m
    cases m
  · obtain ⟨b, q2, z⟩ := thaw_get q
    rw [z, thaw1_mine] at m
    cases m
/-- an own thing becomes data -/
def frz (i : Nat) (st : Store) : Store := match st[i]? with
  | some a => if a.mine = true then st.set i (thaw1 a) else st
  | none => st
theorem Rel.frz (r : Rel K ea H0 G H σ st) (e0 : Ex H0 H) {G0 : Hp} (e : Ext G0 H0 G H) (i : Nat) : ∃ G', Ext G0 H0 G' H ∧ Rel K ea H0 G' H σ (frz i st) := by
  cases q : st[i]? with
  | none => exact ⟨G, e, by unfold Pg.frz; rw [q]; exact r⟩
  | some s =>
    cases hm : s.mine with
    | false => exact ⟨G, e, by unfold Pg.frz; simp only [q, hm]; exact r⟩
    | true =>
      obtain ⟨l, o, a, b, c, d, d0⟩ := r.own i s q hm
      have eG : Ex G (upd G l o) := Ex.new d
      have sG : Ex (upd G l o) H := fun x o z => by
        by_cases hx : x = l
        · subst hx
          rw [upd_same] at z
          cases z
          exact b
        · rw [upd_ne hx] at z
          exact r.s x o z
      refine ⟨upd G l o, ⟨e.g.trans eG, e.h, sG, fun x o z n => ?_⟩, ?_⟩
      · by_cases hx : x = l
        · subst hx
          exact d0
        · rw [upd_ne hx] at z
          exact e.n x o z n
      · unfold Pg.frz
        simp only [q, hm, if_true]
        have il : i < st.length := (List.getElem?_eq_some_iff.mp q).1
        obtain ⟨dd, e1, e2⟩ := thaw1_den c eG (l := l) upd_same
        rw [e1]
        have r2 : Rel K ea H0 (upd G l o) H (σ.set i (some (.ref l))) (st.set i (.dat dd)) := by
          refine ⟨sG, by rw [List.length_set, List.length_set]; exact r.len, fun j q2 => ?_, fun j e q2 => ?_, fun j ys q2 m => ?_, fun j k ys zs m q2 m1 q' m2 p p' => ?_⟩
          · rcases set_cases q2 with ⟨rfl, hl, e⟩ | ⟨z, q2⟩
            · cases e
            · rw [List.getElem?_set_ne z]
              exact r.exc j q2
          · rcases set_cases q2 with ⟨rfl, hl, e⟩ | ⟨z, q2⟩
            · cases e
              exact ⟨_, List.getElem?_set_self (by rw [← r.len]; exact hl), e2⟩
            · rw [List.getElem?_set_ne z]
              obtain ⟨v, a2, b2⟩ := r.dat j e q2
              exact ⟨v, a2, b2.mono eG⟩
          · rcases set_cases q2 with ⟨rfl, hl, e⟩ | ⟨z, q2⟩
            · subst e; cases m
            · obtain ⟨l', ws, a2, b2, c2, d2, e2⟩ := r.own j ys q2 m
              refine ⟨l', ws, by rw [List.getElem?_set_ne z]; exact a2, b2, c2.mono eG, ?_, e2⟩
              rw [upd_ne (fun w => z (by subst w; exact r.sep i j s ys l' q hm q2 m a a2))]
              exact d2
          · rcases set_cases q2 with ⟨rfl, hl, e⟩ | ⟨z, q2⟩
            · subst e; cases m1
            · rcases set_cases q' with ⟨rfl, hl, e⟩ | ⟨z', q'⟩
              · subst e; cases m2
              · rw [List.getElem?_set_ne z] at p
                rw [List.getElem?_set_ne z'] at p'
                exact r.sep j k ys zs m q2 m1 q' m2 p p'
        have es : σ.set i (some (.ref l)) = σ := by
          apply List.ext_getElem?
          intro j
          by_cases z : i = j
          · subst z
            rw [List.getElem?_set_self (by rw [← r.len]; exact il), a]
          · rw [List.getElem?_set_ne z]
        rw [es] at r2
        exact r2
end
end Pg

namespace Pg
open PySem PySem.Spec PyProof.Rows L2
abbrev Fr := PySem.W.Frag
/-- what is asked behind a result: an exception goes to the wish W at the slots σ -/
def aft (K : PySem.W.Frag) (W : WX) (σ : L2.St) (G H : Hp) {α : Type} (r : R α) (k : α → Hp → Hp → Prop) : Prop := match r with
  | .ok a => ∀ G' H', Ext G H G' H' → k a G' H'
  | .rs c => ∀ G' H', Ext G H G' H' → W (.ref (He.ga K c)) none σ H'
  | .no => False
theorem aft_ok {K : PySem.W.Frag} {W : WX} {σ : L2.St} {G H : Hp} {α : Type} {a : α} {k : α → Hp → Hp → Prop} (h : aft K W σ G H (.ok a) k) {G' H' : Hp} (e : Ext G H G' H') : k a G' H' := h G' H' e
/-- a step, then another -/
theorem aft_bind {K : PySem.W.Frag} {W : WX} {σ : L2.St} {G H : Hp} {α β : Type} {r : R α} {g : α → R β} {k : β → Hp → Hp → Prop} (h : aft K W σ G H (r.bind g) k) : aft K W σ G H r fun a G' H' => aft K W σ G' H' (g a) k := by
  cases r with
  | no => exact h
  | rs c => exact h
  | ok a =>
    intro G' H' e
    have h' : aft K W σ G H (g a) k := h
    cases q : g a with
    | no => rw [q] at h'; exact h'
    | rs c => rw [q] at h'; exact fun G2 H2 e2 => h' G2 H2 (e.trans e2)
    | ok b => rw [q] at h'; exact fun G2 H2 e2 => h' G2 H2 (e.trans e2)
theorem aft_mono {K : PySem.W.Frag} {W : WX} {σ : L2.St} {G H : Hp} {α : Type} {r : R α} {k k' : α → Hp → Hp → Prop} (h : aft K W σ G H r k) (hk : ∀ a G' H', Ext G H G' H' → k a G' H' → k' a G' H') : aft K W σ G H r k' := by
  cases r with
  | no => exact h
  | rs c => exact h
  | ok a => exact fun G' H' e => hk a G' H' e (h G' H' e)
def R.of {α : Type} : Option α → R α
  | some a => .ok a
  | none => .no
theorem aft_of {K : PySem.W.Frag} {W : WX} {σ : L2.St} {G H : Hp} {α : Type} {o : Option α} {k : α → Hp → Hp → Prop} (h : aft K W σ G H (R.of o) k) : ∃ a, o = some a ∧ ∀ G' H', Ext G H G' H' → k a G' H' := by
  cases o with
  | none => exact h.elim
  | some a => exact ⟨a, rfl, h⟩

/-! ### the readings -/
def tE (K : PySem.W.Frag) (ea : Addr) (W : WX) (f : ME) : TE := fun σ H Q => ∃ H0 G st, Rel K ea H0 G H σ st ∧ aft K W σ G H (f st) fun d G' H' => ∀ v, Den K G' v d → Q v H'
def tT (K : PySem.W.Frag) (ea : Addr) (W : WX) (f : MT) : TT := fun σ H Q => ∃ H0 G st, Rel K ea H0 G H σ st ∧ aft K W σ G H (f st) fun b _ H' => Q b H'
def tA (K : PySem.W.Frag) (ea : Addr) (W : WX) (f : MA) : TA := fun σ H Q => ∃ H0 G st, Rel K ea H0 G H σ st ∧ aft K W σ G H (f st) fun ds G' H' => ∀ vs, Dens K G' vs ds → Q vs H'
theorem _root_.L2.PE.weak {X : Cx} {e : Expr} {t t' : TE} (h : PE X e t) (w : ∀ σ H Q, t' σ H Q → t σ H Q) : PE X e t' := ⟨fun pins s σ H Q I q => h.run pins s σ H Q I (w σ H Q q)⟩
theorem _root_.L2.PT.weak {X : Cx} {e : Expr} {t t' : TT} (h : PT X e t) (w : ∀ σ H Q, t' σ H Q → t σ H Q) : PT X e t' := ⟨fun pins s σ H Q I q => h.run pins s σ H Q I (w σ H Q q)⟩
theorem _root_.L2.PW.weak {X : Cx} {e : Expr} {t t' : TT} (h : PW X e t) (w : ∀ σ H Q, t' σ H Q → t σ H Q) : PW X e t' := ⟨fun wh pins s σ H Q I q => h.run wh pins s σ H Q I (w σ H Q q)⟩
theorem _root_.L2.PA.weak {X : Cx} {e : List Expr} {t t' : TA} (h : PA X e t) (w : ∀ σ H Q, t' σ H Q → t σ H Q) : PA X e t' := ⟨fun p pins s σ H Q I q => h.run p pins s σ H Q I (w σ H Q q)⟩
theorem _root_.L2.PS.weak {X : Cx} {e : Stmt} {t t' : TS} (h : PS X e t) (w : ∀ D σ H, t' D σ H → t D σ H) : PS X e t' := ⟨fun pins s σ H Q I q => h.run pins s σ H Q I (w Q σ H q)⟩
theorem _root_.L2.PSs.weak {X : Cx} {e : List Stmt} {t t' : TS} (h : PSs X e t) (w : ∀ D σ H, t' D σ H → t D σ H) : PSs X e t' := ⟨fun pins s σ H Q I q => h.run pins s σ H Q I (w Q σ H q)⟩

section
variable {K : PySem.W.Frag} {ea : Addr} {W : WX} {σ : L2.St} {H : Hp}
/-- one expression, then what follows -/
theorem tE.thn {f : ME} {H0 G : Hp} {st : Store} {Q : VK} (r : Rel K ea H0 G H σ st) (h : aft K W σ G H (f st) fun d G' H' => ∀ v, Den K G' v d → Q v H') : tE K ea W f σ H Q := ⟨H0, G, st, r, h⟩
end

/-! ### names, constants -/
def eVar (i : Nat) : ME := fun st => match st[i]? with
  | some (.dat d) => .ok d
  | _ => .no
def eC (d : D) : ME := fun _ => .ok d
section
variable {X : Cx} {ea : Addr} {W : WX}
theorem g_var (i : Nat) {x : Str} {pos : Pos} (hN : X.N[i]? = some x := by rfl) (hv : Vis X.env.scope x := by first | exact Or.inl rfl | exact Or.inr (Or.inl rfl) | exact Or.inr (Or.inr rfl)) (hd : (x == ("__debug__" : Str)) = false := by decide)
    (hcd : (x == ("__classdict__" : Str)) = false := by decide) : PE X (.Name x pos) (tE X.K ea W (eVar i)) := by
  refine (pe_var hN hv hd hcd).weak fun σ H Q h => ?_
  obtain ⟨H0, G, st, r, a⟩ := h
  unfold eVar at a
  cases q : st[i]? with
  | none => rw [q] at a; exact a.elim
  | some s =>
    rw [q] at a
    cases s with
    | un => exact a.elim
    | exc => exact a.elim
    | own xs => exact a.elim
    | owd xs => exact a.elim
    | dat d =>
      obtain ⟨v, e, dv⟩ := r.dat i d q
      exact ⟨v, e, a G H (Ext.refl r.s) v dv⟩
theorem tE_c {K : PySem.W.Frag} {v : V} {d : D} (hd : ∀ G : Hp, Den K G v d) : ∀ σ H Q, tE K ea W (eC d) σ H Q → tC v σ H Q := fun σ H Q h => by
  obtain ⟨H0, G, st, r, a⟩ := h
  exact a G H (Ext.refl r.s) v (hd G)
theorem g_int {i : Int} {j pos} : PE X (.Constant (.int i) j pos) (tE X.K ea W (eC (.int i))) := pe_int.weak (tE_c fun _ => .int i)
theorem g_bl {b j pos} : PE X (.Constant (.bool b) j pos) (tE X.K ea W (eC (.bl b))) := pe_bl.weak (tE_c fun _ => .bl b)
theorem g_non {j pos} : PE X (.Constant .none j pos) (tE X.K ea W (eC .non)) := pe_non.weak (tE_c fun _ => .non)
theorem g_str {x j pos} : PE X (.Constant (.str x) j pos) (tE X.K ea W (eC (.str x))) := pe_str.weak (tE_c fun _ => .str x)
/-- a module's constant -/
theorem g_glob {x : Str} {v : V} {u : Value} {d : D} {pos : Pos} (hm : X.mg x = some u) (r : RelV v u) (hd : ∀ G : Hp, Den X.K G v d) (hg : Gl X x := by rfl) (hdb : (x == ("__debug__" : Str)) = false := by decide) : PE X (.Name x pos) (tE X.K ea W (eC d)) :=
  (pe_glob hg hm r hdb).weak (tE_c hd)
end

/-! ### two operands, one, calls of built-ins -/
def bin (op : D → D → Option D) (f g : ME) : ME := fun st => (f st).bind fun x => (g st).bind fun y => R.of (op x y)
def unr (op : D → Option D) (f : ME) : ME := fun st => (f st).bind fun x => R.of (op x)
def aNil : MA := fun _ => .ok []
def aCons (f : ME) (g : MA) : MA := fun st => (f st).bind fun x => (g st).bind fun xs => .ok (x :: xs)
def bcall (op : List D → Option D) (a : MA) : ME := fun st => (a st).bind fun xs => R.of (op xs)
/-- r does of values what op does of data -/
def Op2 (K : PySem.W.Frag) (r : R2) (op : D → D → Option D) : Prop := ∀ (G H : Hp) (v w : V) (x y z : D) (Q : VK), Ex G H → Den K G v x → Den K G w y → op x y = some z → (∀ u G' H', Ext G H G' H' → Den K G' u z → Q u H') → r v w H Q
def Op1 (K : PySem.W.Frag) (r : V → Hp → VK → Prop) (op : D → Option D) : Prop := ∀ (G H : Hp) (v : V) (x z : D) (Q : VK), Ex G H → Den K G v x → op x = some z → (∀ u G' H', Ext G H G' H' → Den K G' u z → Q u H') → r v H Q
def OpN (K : PySem.W.Frag) (r : List V → Hp → VK → Prop) (op : List D → Option D) : Prop := ∀ (G H : Hp) (vs : List V) (xs : List D) (z : D) (Q : VK), Ex G H → Dens K G vs xs → op xs = some z → (∀ u G' H', Ext G H G' H' → Den K G' u z → Q u H') → r vs H Q
section
variable {K : PySem.W.Frag} {ea : Addr} {W : WX}
theorem tE_bin {r : R2} {op : D → D → Option D} (ok : Op2 K r op) {f g : ME} : ∀ σ H Q, tE K ea W (bin op f g) σ H Q → tOp r (tE K ea W f) (tE K ea W g) σ H Q := fun σ H Q h => by
  obtain ⟨H0, G, st, rl, a⟩ := h
  refine ⟨H0, G, st, rl, aft_mono (aft_bind a) fun x G1 H1 e1 a1 v dv => ?_⟩
  refine ⟨H0, G1, st, rl.ext e1, aft_mono (aft_bind a1) fun y G2 H2 e2 a2 w dw => ?_⟩
  obtain ⟨z, ez, k⟩ := aft_of a2
  exact ok G2 H2 v w x y z Q e2.s (dv.mono e2.g) dw ez fun u G' H' e du => k G' H' e u du
theorem tE_un {r : V → Hp → VK → Prop} {op : D → Option D} (ok : Op1 K r op) {f : ME} : ∀ σ H Q, tE K ea W (unr op f) σ H Q → tUn r (tE K ea W f) σ H Q := fun σ H Q h => by
  obtain ⟨H0, G, st, rl, a⟩ := h
  refine ⟨H0, G, st, rl, aft_mono (aft_bind a) fun x G1 H1 e1 a1 v dv => ?_⟩
  obtain ⟨z, ez, k⟩ := aft_of a1
  exact ok G1 H1 v x z Q e1.s dv ez fun u G' H' e du => k G' H' e u du
theorem tA_nil : ∀ σ H Q, tA K ea W aNil σ H Q → tNil σ H Q := fun σ H Q h => by
  obtain ⟨H0, G, st, rl, a⟩ := h
  exact a G H (Ext.refl rl.s) [] .nil
theorem tA_cons {f : ME} {g : MA} : ∀ σ H Q, tA K ea W (aCons f g) σ H Q → tCons (tE K ea W f) (tA K ea W g) σ H Q := fun σ H Q h => by
  obtain ⟨H0, G, st, rl, a⟩ := h
  refine ⟨H0, G, st, rl, aft_mono (aft_bind a) fun x G1 H1 e1 a1 v dv => ?_⟩
  refine ⟨H0, G1, st, rl.ext e1, aft_mono (aft_bind a1) fun xs G2 H2 e2 a2 vs dvs => ?_⟩
  exact a2 G2 H2 (Ext.refl e2.s) _ (.cons (dv.mono e2.g) dvs)
theorem tE_bcall {r : List V → Hp → VK → Prop} {op : List D → Option D} (ok : OpN K r op) {a : MA} : ∀ σ H Q, tE K ea W (bcall op a) σ H Q → tCB r (tA K ea W a) σ H Q := fun σ H Q h => by
  obtain ⟨H0, G, st, rl, a⟩ := h
  refine ⟨H0, G, st, rl, aft_mono (aft_bind a) fun xs G1 H1 e1 a1 vs dvs => ?_⟩
  obtain ⟨z, ez, k⟩ := aft_of a1
  exact ok G1 H1 vs xs z Q e1.s dvs ez fun u G' H' e du => k G' H' e u du
end
section
variable {X : Cx} {ea : Addr} {W : WX} {a b : Expr} {es : List Expr} {f g : ME} {h : MA} {pos : Pos}
theorem ga_nil : PA X [] (tA X.K ea W aNil) := pa_nil.weak tA_nil
theorem ga_cons (ha : PE X a (tE X.K ea W f)) (hr : PA X es (tA X.K ea W h)) (hs : starEach (a :: es) X.env = (false, eval a X.env) :: starEach es X.env := by rfl) : PA X (a :: es) (tA X.K ea W (aCons f h)) := (pa_cons ha hr hs).weak tA_cons
theorem g_bin {op : Operator} {r : R2} {o : D → D → Option D} (ho : OpR X (binaryOp op) r) (ok : Op2 X.K r o) (ha : PE X a (tE X.K ea W f)) (hb : PE X b (tE X.K ea W g)) : PE X (.BinOp a op b pos) (tE X.K ea W (bin o f g)) := (pe_op ho ha hb).weak (tE_bin ok)
theorem g_cmp {op : CmpOp} {r : R2} {o : D → D → Option D} (ho : OpR X (compareOp op) r) (ok : Op2 X.K r o) (ha : PE X a (tE X.K ea W f)) (hb : PE X b (tE X.K ea W g)) (hm : behindInMarks op b = false) : PE X (.Compare a [op] [b] pos) (tE X.K ea W (bin o f g)) := (pe_cmpR ho ha hb hm).weak (tE_bin ok)
theorem g_ix {r : R2} {o : D → D → Option D} (hr : IxR X r) (ok : Op2 X.K r o) (ha : PE X a (tE X.K ea W f)) (hb : PE X b (tE X.K ea W g)) (hs : PlainIx b) : PE X (.Subscript a b pos) (tE X.K ea W (bin o f g)) := (pe_ix hr ha hb hs).weak (tE_bin ok)
theorem g_un {op : UnaryOp} {r : V → Hp → VK → Prop} {o : D → Option D} (ho : UnR X (unaryOp op) r) (ok : Op1 X.K r o) (ha : PE X a (tE X.K ea W f)) : PE X (.UnaryOp op a pos) (tE X.K ea W (unr o f)) := (pe_un ho ha).weak (tE_un ok)
theorem g_callB {id : String} {r : List V → Hp → VK → Prop} {o : List D → Option D} {x : Str} {p : Pos} (hc : CallR X (.builtin id) r) (ok : OpN X.K r o) (hm : X.mg x = none) (hv : bootBuiltins x = some (.builtin id)) (ha : PA X (a :: es) (tA X.K ea W h)) (hg : Gl X x := by rfl) (hn : x ≠ "__name__" := by decide) (hdb : (x == ("__debug__" : Str)) = false := by decide)
    (he : starEach (a :: es) X.env = (false, eval a X.env) :: starEach es X.env := by rfl) (hpl : (backTo pos (starEach es X.env)).any (·.1) = false := by rfl) : PE X (.Call (.Name x p) (a :: es) [] pos) (tE X.K ea W (bcall o h)) := (pe_callB hc hg hm hv ha hn hdb he hpl).weak (tE_bcall ok)
theorem g_callTy {T : String} {r : List V → Hp → VK → Prop} {o : List D → Option D} {x : Str} {p : Pos} (hc : CallR X (.type T) r) (ok : OpN X.K r o) (hm : X.mg x = none) (hv : bootBuiltins x = some (.type T)) (ha : PA X (a :: es) (tA X.K ea W h)) (hg : Gl X x := by rfl) (hn : x ≠ "__name__" := by decide) (hdb : (x == ("__debug__" : Str)) = false := by decide)
    (he : starEach (a :: es) X.env = (false, eval a X.env) :: starEach es X.env := by rfl) (hpl : (backTo pos (starEach es X.env)).any (·.1) = false := by rfl) : PE X (.Call (.Name x p) (a :: es) [] pos) (tE X.K ea W (bcall o h)) := (pe_callTy hc hg hm hv ha hn hdb he hpl).weak (tE_bcall ok)
end
end Pg

namespace Pg
open PySem PySem.Spec PyProof.Rows L2
theorem szl {n : Nat} (h : n ≤ 100000) : n ≤ sizeLine := Nat.le_trans h (by decide)
theorem szl' {n : Nat} (h : n < 100000) : n < sizeLine := Nat.lt_of_lt_of_le h (by decide)

/-! ### arithmetic -/
def addD : D → D → Option D
  | .int a, .int b => some (.int (a + b))
  | .str a, .str b => if a.length + b.length ≤ 100000 then some (.str (a ++ b)) else none
  | .lst a, .lst b => if a.length + b.length ≤ 100000 then some (.lst (a ++ b)) else none
  | .tup a, .tup b => if a.isEmpty = false ∧ b.isEmpty = false ∧ a.length + b.length ≤ 100000 then some (.tup (a ++ b)) else none
  | _, _ => none
def subD : D → D → Option D
  | .int a, .int b => some (.int (a - b))
  | _, _ => none
def mulD : D → D → Option D
  | .int a, .int b => if (-(2 ^ 64) < a ∧ a < 2 ^ 64) ∨ (-(2 ^ 64) < b ∧ b < 2 ^ 64) then some (.int (a * b)) else none
  | .lst a, .int k => if k ≤ 100000 ∧ 0 ≤ k ∧ a.length * k.toNat ≤ 100000 then some (.lst (List.replicate k.toNat a).flatten) else none
  | _, _ => none
def fdivD : D → D → Option D
  | .int a, .int b => if 0 < b ∧ b < 2 ^ 100 then some (.int (a / b)) else none
  | _, _ => none
def modD : D → D → Option D
  | .int a, .int b => if 0 < b then some (.int (a % b)) else none
  | _, _ => none
def powD : D → D → Option D
  | .int a, .int b => if 0 ≤ b ∧ b ≤ 1000 ∧ a.natAbs < 2 ^ 64 then some (.int (a ^ b.toNat)) else none
  | _, _ => none
def negD : D → Option D
  | .int a => some (.int (-a))
  | _ => none
abbrev rAddStr : R2 := fun x y H Q => ∃ i j, x = .str i ∧ y = .str j ∧ i.length + j.length ≤ sizeLine ∧ Q (.str (i ++ j)) H
def rAddD (K : Fr) : R2 := fun x y H Q => (rI0 fun i j => .int (i + j)) x y H Q ∨ rAddStr x y H Q ∨ rCat x y H Q ∨ rCatT K x y H Q
section
variable {X : Cx} {K : Fr}
theorem op_addD : OpR X (binaryOp .Add) (rAddD X.K) := op_add.or (op_add_str.or (op_cat.or op_catT))
theorem ok_add : Op2 K (rAddD K) addD := by
  intro G H v w x y z Q s dx dy e k
  cases dx with
  | int i =>
    cases dy with
    | int j => cases e; exact .inl ⟨i, j, rfl, rfl, k _ _ _ (Ext.refl s) (.int _)⟩
    | _ => cases e
  | str i =>
    cases dy with
    | str j =>
      simp only [addD] at e
      split at e
      · rename_i hl
        cases e
        exact .inr (.inl ⟨i, j, rfl, rfl, szl hl, k _ _ _ (Ext.refl s) (.str _)⟩)
      · cases e
    | _ => cases e
  | @lst a xs ds ha hd =>
    cases dy with
    | @lst b ys es hb he =>
      simp only [addD] at e
      split at e
      · rename_i hl
        cases e
        refine .inr (.inr (.inl ⟨a, b, xs, ys, rfl, rfl, s _ _ ha, s _ _ hb, szl (by rw [hd.length, he.length]; exact hl), fun p hp => ?_⟩))
        have ex := Ext.new (G := G) (H := H) (p := p) (o := .lst (xs ++ ys)) s hp
        exact k _ _ _ ex (.lst upd_same ((hd.mono ex.g).append (he.mono ex.g)))
      · cases e
    | _ => cases e
  | @tup a xs ds ha hd =>
    cases dy with
    | @tup b ys es hb he =>
      simp only [addD] at e
      split at e
      · rename_i hl
        cases e
        obtain ⟨h1, h2, hl⟩ := hl
        have n1 : xs ≠ [] := fun z => by
          subst z
          cases hd
          cases h1
        have n2 : ys ≠ [] := fun z => by
          subst z
          cases he
          cases h2
        refine .inr (.inr (.inr ⟨a, b, xs, ys, rfl, rfl, ex_t s ha, ex_t s hb, n1, szl (by rw [hd.length, he.length]; exact hl), fun z => absurd z n2, fun _ p hp => ?_⟩))
        have ex := Ext.new (G := G) (H := H) (p := p) (o := .tup (xs ++ ys)) s hp
        exact k _ _ _ ex (.tup (SqT.of upd_same) ((hd.mono ex.g).append (he.mono ex.g)))
      · cases e
    | _ => cases e
  | _ => cases y <;> cases e
theorem ok_I0 {g : Int → Int → V} {o : D → D → Option D} (ho : ∀ x y z, o x y = some z → ∃ i j, x = .int i ∧ y = .int j ∧ ∀ G : Hp, Den K G (g i j) z) : Op2 K (rI0 g) o := by
  intro G H v w x y z Q s dx dy e k
  obtain ⟨i, j, rfl, rfl, d⟩ := ho x y z e
  rw [dx.int_inv, dy.int_inv]
  exact ⟨i, j, rfl, rfl, k _ _ _ (Ext.refl s) (d G)⟩
theorem ok_I {C : Int → Int → Prop} {g : Int → Int → V} {o : D → D → Option D} (ho : ∀ x y z, o x y = some z → ∃ i j, x = .int i ∧ y = .int j ∧ C i j ∧ ∀ G : Hp, Den K G (g i j) z) : Op2 K (rI C g) o := by
  intro G H v w x y z Q s dx dy e k
  obtain ⟨i, j, rfl, rfl, c, d⟩ := ho x y z e
  rw [dx.int_inv, dy.int_inv]
  exact ⟨i, j, rfl, rfl, c, k _ _ _ (Ext.refl s) (d G)⟩
theorem ok_sub : Op2 K (rI0 fun i j => .int (i - j)) subD := ok_I0 fun x y z e => by
  cases x <;> cases y <;> cases e
  exact ⟨_, _, rfl, rfl, fun _ => .int _⟩
def rMulD : R2 := fun x y H Q => (rI CMul fun i j => .int (i * j)) x y H Q ∨ rRep x y H Q
theorem op_mulD : OpR X (binaryOp .Mult) rMulD := op_mul.or op_rep
theorem dens_flat {G : Hp} {vs : List V} {ds : List D} (h : Dens K G vs ds) : ∀ n : Nat, Dens K G (List.replicate n vs).flatten (List.replicate n ds).flatten
  | 0 => .nil
  | n + 1 => by
    rw [List.replicate_succ, List.replicate_succ, List.flatten_cons, List.flatten_cons]
    exact h.append (dens_flat h n)
theorem ok_mul : Op2 K rMulD mulD := by
  intro G H v w x y z Q s dx dy e k
  cases dx with
  | int i =>
    cases dy with
    | int j =>
      simp only [mulD] at e
      split at e
      · rename_i hl
        cases e
        exact .inl ⟨i, j, rfl, rfl, hl, k _ _ _ (Ext.refl s) (.int _)⟩
      · cases e
    | _ => cases e
  | @lst a xs ds ha hd =>
    cases dy with
    | int j =>
      simp only [mulD] at e
      split at e
      · rename_i hl
        cases e
        obtain ⟨h1, h2, h3⟩ := hl
        refine .inr ⟨a, j, xs, rfl, rfl, s _ _ ha, by omega, by omega, szl (by rw [hd.length]; exact h3), fun p hp => ?_⟩
        have ex := Ext.new (G := G) (H := H) (p := p) (o := .lst (List.replicate j.toNat xs).flatten) s hp
        exact k _ _ _ ex (.lst upd_same (dens_flat (hd.mono ex.g) _))
      · cases e
    | _ => cases e
  | _ => cases y <;> cases e
theorem ok_fdiv : Op2 K (rI CDivW fun i j => .int (i / j)) fdivD := ok_I fun x y z e => by
  cases x with
  | int i =>
    cases y with
    | int j =>
      simp only [fdivD] at e
      split at e
      · rename_i hl
        cases e
        refine ⟨i, j, rfl, rfl, wide_div (b := 100) hl.1 ?_ (by decide) (by decide), fun _ => .int _⟩
        have h1 := hl.1
        have h2 := hl.2
        have e : (j.natAbs : Int) = j := by omega
        have : (j.natAbs : Int) < 2 ^ 100 := by rw [e]; exact h2
        exact_mod_cast this
      · cases e
    | _ => cases e
  | _ => cases y <;> cases e
theorem ok_mod : Op2 K (rI (fun _ j => 0 < j) fun i j => .int (i % j)) modD := ok_I fun x y z e => by
  cases x with
  | int i =>
    cases y with
    | int j =>
      simp only [modD] at e
      split at e
      · rename_i hl
        cases e
        exact ⟨i, j, rfl, rfl, hl, fun _ => .int _⟩
      · cases e
    | _ => cases e
  | _ => cases y <;> cases e
theorem ok_pow : Op2 K (rI CPow fun i j => .int (i ^ j.toNat)) powD := ok_I fun x y z e => by
  cases x with
  | int i =>
    cases y with
    | int j =>
      simp only [powD] at e
      split at e
      · rename_i hl
        cases e
        exact ⟨i, j, rfl, rfl, ⟨hl.1, by omega, hl.2.2⟩, fun _ => .int _⟩
      · cases e
    | _ => cases e
  | _ => cases y <;> cases e
theorem ok_neg : Op1 K (rU fun i => .int (-i)) negD := by
  intro G H v x z Q s dx e k
  cases dx with
  | int i => cases e; exact ⟨i, rfl, k _ _ _ (Ext.refl s) (.int _)⟩
  | _ => cases e

/-! ### order of ints -/
def ltD : D → D → Option D
  | .int a, .int b => some (.bl (decide (a < b)))
  | _, _ => none
def leD : D → D → Option D
  | .int a, .int b => some (.bl (decide (a ≤ b)))
  | _, _ => none
def gtD : D → D → Option D
  | .int a, .int b => some (.bl (decide (b < a)))
  | _, _ => none
def geD : D → D → Option D
  | .int a, .int b => some (.bl (decide (b ≤ a)))
  | _, _ => none
theorem ok_lt : Op2 K (rI0 fun i j => .bl (decide (i < j))) ltD := ok_I0 fun x y z e => by
  cases x <;> cases y <;> cases e
  exact ⟨_, _, rfl, rfl, fun _ => .bl _⟩
theorem ok_le : Op2 K (rI0 fun i j => .bl (decide (i ≤ j))) leD := ok_I0 fun x y z e => by
  cases x <;> cases y <;> cases e
  exact ⟨_, _, rfl, rfl, fun _ => .bl _⟩
theorem ok_gt : Op2 K (rI0 fun i j => .bl (decide (j < i))) gtD := ok_I0 fun x y z e => by
  cases x <;> cases y <;> cases e
  exact ⟨_, _, rfl, rfl, fun _ => .bl _⟩
theorem ok_ge : Op2 K (rI0 fun i j => .bl (decide (j ≤ i))) geD := ok_I0 fun x y z e => by
  cases x <;> cases y <;> cases e
  exact ⟨_, _, rfl, rfl, fun _ => .bl _⟩

/-! ### is -/
def isD : D → D → Option D
  | .bl a, .bl b => some (.bl (decide (a = b)))
  | .non, .non => some (.bl true)
  | .bl _, .non => some (.bl false)
  | .int _, .non => some (.bl false)
  | .str _, .non => some (.bl false)
  | .tup _, .non => some (.bl false)
  | .lst _, .non => some (.bl false)
  | _, _ => none
def notB : Option D → Option D
  | some (.bl b) => some (.bl (!b))
  | _ => none
def isnD (x y : D) : Option D := notB (isD x y)
abbrev rIsN' : R2 := fun x y H Q => y = .non ∧ Q (.bl (decide (x = .non))) H
abbrev rNotN' : R2 := fun x y H Q => y = .non ∧ Q (.bl (!decide (x = .non))) H
def rIsD : R2 := fun x y H Q => rIsN' x y H Q ∨ rIsB x y H Q
def rIsnD : R2 := fun x y H Q => rNotN' x y H Q ∨ rNotB x y H Q
theorem op_isD : OpR X (compareOp .Is) rIsD := op_isN.or op_isBl
theorem op_isnD : OpR X (compareOp .IsNot) rIsnD := op_notN.or op_notBl
theorem isD_cases {G : Hp} {v w : V} {x y z : D} (dx : Den K G v x) (dy : Den K G w y) (e : isD x y = some z) : (w = .non ∧ z = .bl (decide (v = .non))) ∨ ∃ a b : Bool, v = .bl a ∧ w = .bl b ∧ z = .bl (decide (a = b)) := by
  cases dx with
  | adr a => cases y <;> cases e
  | fn a => cases y <;> cases e
  | dic _ => cases y <;> cases e
  | dicL _ => cases y <;> cases e
  | thk _ _ _ => cases y <;> cases e
  | _ => cases dy <;> cases e <;> first
    | exact .inl ⟨rfl, by simp⟩
    | exact .inr ⟨_, _, rfl, rfl, rfl⟩
theorem ok_is : Op2 K rIsD isD := by
  intro G H v w x y z Q s dx dy e k
  rcases isD_cases dx dy e with ⟨rfl, rfl⟩ | ⟨a, b, rfl, rfl, rfl⟩
  · exact .inl ⟨rfl, k _ _ _ (Ext.refl s) (.bl _)⟩
  · exact .inr ⟨a, b, rfl, rfl, k _ _ _ (Ext.refl s) (.bl _)⟩
theorem ok_isn : Op2 K rIsnD isnD := by
  intro G H v w x y z Q s dx dy e k
  unfold isnD at e
  cases e1 : isD x y with
  | none => rw [e1] at e; cases e
  | some z1 =>
    rw [e1] at e
    rcases isD_cases dx dy e1 with ⟨rfl, rfl⟩ | ⟨a, b, rfl, rfl, rfl⟩
    · cases e
      exact .inl ⟨rfl, k _ _ _ (Ext.refl s) (.bl _)⟩
    · cases e
      exact .inr ⟨a, b, rfl, rfl, k _ _ _ (Ext.refl s) (.bl _)⟩

/-! ### in: flat items -/
def flatD : D → Bool
  | .non => true
  | .bl _ => true
  | .int _ => true
  | .str _ => true
  | _ => false
def eqF : D → D → Bool
  | .non, .non => true
  | .bl a, .bl b => a == b
  | .bl a, .int b => (if a then 1 else 0) == b
  | .int a, .bl b => a == (if b then 1 else 0)
  | .int a, .int b => a == b
  | .str a, .str b => a == b
  | _, _ => false
theorem flat_den {G : Hp} {v : V} {x : D} (h : Den K G v x) (f : flatD x = true) : flatV v = true := by
  cases h <;> first | rfl | cases f
theorem eqF_den {G : Hp} {v w : V} {x y : D} (h : Den K G v x) (h' : Den K G w y) (f : flatD x = true) (f' : flatD y = true) : eqV v w = eqF x y := by
  cases h <;> first | (cases h' <;> first | rfl | cases f') | cases f
theorem flats_den {G : Hp} : ∀ {vs : List V} {xs : List D}, Dens K G vs xs → xs.all flatD = true → vs.all flatV = true
  | _, _, .nil, _ => rfl
  | _, _, .cons h r, f => by
    rw [List.all_cons, Bool.and_eq_true] at f ⊢
    exact ⟨flat_den h f.1, flats_den r f.2⟩
theorem any_den {G : Hp} {v : V} {x : D} (h : Den K G v x) (f : flatD x = true) : ∀ {vs : List V} {xs : List D}, Dens K G vs xs → xs.all flatD = true → inV v vs = xs.any fun y => eqF y x
  | _, _, .nil, _ => rfl
  | _, _, .cons h' r, f' => by
    rw [List.all_cons, Bool.and_eq_true] at f'
    have ih := any_den h f r f'.2
    unfold inV at ih ⊢
    rw [List.any_cons, List.any_cons, ih, eqF_den h' h f'.1 f]
def inL (neg : Bool) (x : D) (ys : List D) : Option D := if flatD x = true ∧ ys.all flatD = true then some (.bl (if neg then !ys.any fun y => eqF y x else ys.any fun y => eqF y x)) else none
def inD (neg : Bool) : D → D → Option D
  | x, .lst ys => inL neg x ys
  | x, .tup ys => inL neg x ys
  | _, _ => none
theorem ok_in {neg : Bool} : Op2 K (rIn K neg) (inD neg) := by
  intro G H v w x y z Q s dx dy e k
  have go : ∀ {a : Addr} {vs : List V} {ys : List D}, w = .ref a → (SqL K H a vs ∨ SqT K H a vs) → Dens K G vs ys → inL neg x ys = some z → rIn K neg v w H Q := fun {a vs ys} ew hs hd e => by
    unfold inL at e
    split at e
    · rename_i hf
      cases e
      refine ⟨a, vs, ew, hs, flat_den dx hf.1, flats_den hd hf.2, ?_⟩
      rw [any_den dx hf.1 hd hf.2]
      exact k _ _ _ (Ext.refl s) (.bl _)
    · cases e
  cases dy with
  | lst ha hd => exact go rfl (.inl (SqL.of (s _ _ ha))) hd e
  | tup ha hd => exact go rfl (.inr (ex_t s ha)) hd e
  | _ => cases e

/-! ### == -/
mutual
def toP : D → PyData
  | .non => .none
  | .bl b => .bool b
  | .int i => .int i
  | .str x => .str x
  | .tup xs => .tuple (toPs xs)
  | .lst xs => .list (toPs xs)
  | .scr ns => .list (ns.map PyData.int)
  | .adr _ => .none
  | .fn _ => .none
  | .dic _ _ => .none
  | .thk _ _ => .none
def toPs : List D → List PyData
  | [] => []
  | x :: xs => toP x :: toPs xs
end
/-- data of depth below n, no addresses in it -/
def okd : Nat → D → Bool
  | 0, _ => false
  | n + 1, d => match d with
    | .tup xs => xs.all (okd n)
    | .lst xs => xs.all (okd n)
    | .adr _ => false
    | .fn _ => false
    | .dic _ _ => false
    | .thk _ _ => false
    | .str s => PyData.strOk s
    | _ => true
mutual
theorem den_dp {G : Hp} : ∀ (n : Nat) {v : V} {d : D}, Den K G v d → okd n d = true → Dp K G v (toP d)
  | 0, _, _, _, h => by cases h
  | n + 1, _, _, .non, _ => .non
  | n + 1, _, _, .bl b, _ => .bl b
  | n + 1, _, _, .int i, _ => .int i
  | n + 1, _, _, .str x, _ => .str x
  | n + 1, _, _, .adr a, h => by cases h
  | n + 1, _, _, .fn a, h => by cases h
  | n + 1, _, _, .dic _, h => by cases h
  | n + 1, _, _, .dicL _, h => by cases h
  | n + 1, _, _, .thk _ _ _, h => by cases h
  | n + 1, _, _, .lst ha hd, h => .lst (SqL.of ha) (dens_dp n hd h)
  | n + 1, _, _, .tup ha hd, h => .tup ha (dens_dp n hd h)
  | n + 1, _, _, .scr (ns := ns) ha, h => .lst ha (ints_dp ns)
theorem dens_dp {G : Hp} : ∀ (n : Nat) {vs : List V} {ds : List D}, Dens K G vs ds → ds.all (okd n) = true → DpAll K G vs (toPs ds)
  | n, _, _, .nil, _ => .nil
  | n, _, _, .cons h r, e => by
    rw [List.all_cons, Bool.and_eq_true] at e
    exact .cons (den_dp n h e.1) (dens_dp n r e.2)
theorem ints_dp {G : Hp} : ∀ ns : List Int, DpAll K G (ns.map V.int) (ns.map PyData.int)
  | [] => .nil
  | n :: r => .cons (.int n) (ints_dp r)
end
end
end Pg

namespace Pg
open PySem PySem.Spec PyProof.Rows L2
theorem toPs_eq : ∀ xs : List D, toPs xs = xs.map toP
  | [] => by unfold toPs; rfl
  | x :: xs => by unfold toPs; rw [toPs_eq xs]; rfl
theorem canLayAll_eq : ∀ xs : List PyData, PyData.canLayAll0 xs = xs.all PyData.canLay0
  | [] => by unfold PyData.canLayAll0; rfl
  | x :: xs => by unfold PyData.canLayAll0; rw [canLayAll_eq xs]; rfl
theorem depthAll_le {n : Nat} : ∀ {xs : List PyData}, (∀ x ∈ xs, PyData.depth x ≤ n) → PyData.depthAll xs ≤ n
  | [], _ => by unfold PyData.depthAll; exact Nat.zero_le _
  | x :: xs, h => by
    unfold PyData.depthAll
    have h1 := h x List.mem_cons_self
    have h2 := depthAll_le (xs := xs) fun y hy => h y (List.mem_cons_of_mem _ hy)
    omega
theorem okd_shape : ∀ (n : Nat) (d : D), okd n d = true → PyData.canLay0 (toP d) = true ∧ PyData.depth (toP d) ≤ n
  | 0, d, h => by cases h
  | n + 1, d, h => by
    have many : ∀ xs : List D, xs.all (okd n) = true → PyData.canLayAll0 (toPs xs) = true ∧ PyData.depthAll (toPs xs) ≤ n := fun xs hx => by
      have ih : ∀ x ∈ xs, PyData.canLay0 (toP x) = true ∧ PyData.depth (toP x) ≤ n := fun x m => okd_shape n x (List.all_eq_true.mp hx x m)
      rw [toPs_eq, canLayAll_eq]
      refine ⟨?_, depthAll_le fun y hy => ?_⟩
      · rw [List.all_eq_true]
        intro y hy
        obtain ⟨x, m, rfl⟩ := List.mem_map.mp hy
        exact (ih x m).1
      · obtain ⟨x, m, rfl⟩ := List.mem_map.mp hy
        exact (ih x m).2
    cases d with
    | tup xs =>
      obtain ⟨a, b⟩ := many xs h
      simp only [toP, PyData.canLay0, PyData.depth]
      exact ⟨a, by omega⟩
    | lst xs =>
      obtain ⟨a, b⟩ := many xs h
      simp only [toP, PyData.canLay0, PyData.depth]
      exact ⟨a, by omega⟩
    | adr a => cases h
    | fn a => cases h
    | dic b a => cases h
    | thk b a => cases h
    | scr ns =>
      simp only [toP, PyData.canLay0, PyData.depth]
      rw [canLayAll_eq]
      refine ⟨?_, ?_⟩
      · rw [List.all_eq_true]
        intro y hy
        obtain ⟨i, _, rfl⟩ := List.mem_map.mp hy
        simp only [PyData.canLay0]
      · have := depthAll_le (n := 0) (xs := ns.map PyData.int) fun y hy => by
          obtain ⟨i, _, rfl⟩ := List.mem_map.mp hy
          simp only [PyData.depth]; omega
        omega
    | str s =>
      simp only [toP, PyData.canLay0, PyData.depth]
      exact ⟨h, Nat.zero_le _⟩
    | non => simp only [toP, PyData.canLay0, PyData.depth]; exact ⟨trivial, Nat.zero_le _⟩
    | bl b => simp only [toP, PyData.canLay0, PyData.depth]; exact ⟨trivial, Nat.zero_le _⟩
    | int i => simp only [toP, PyData.canLay0, PyData.depth]; exact ⟨trivial, Nat.zero_le _⟩
theorem okd_shaped {d : D} (h : okd 6 d = true) : SeqAt.shaped (toP d) = true := by
  obtain ⟨a, b⟩ := okd_shape 6 d h
  unfold SeqAt.shaped
  rw [a, Bool.true_and]
  exact decide_eq_true (by omega)
def eqv (x y : D) : Bool := PyData.eqv (toP x) (toP y)
def eqD (x y : D) : Option D := if okd 6 x = true ∧ okd 6 y = true then some (.bl (eqv x y)) else none
def neD (x y : D) : Option D := if okd 6 x = true ∧ okd 6 y = true then some (.bl (!eqv x y)) else none
section
variable {X : Cx} {K : Fr}
theorem ok_eq : Op2 K (rEqD K) eqD := by
  intro G H v w x y z Q s dx dy e k
  unfold eqD at e
  split at e
  · rename_i h
    cases e
    exact ⟨_, _, den_dp 6 (dx.mono s) h.1, den_dp 6 (dy.mono s) h.2, okd_shaped h.1, okd_shaped h.2, k _ _ _ (Ext.refl s) (.bl _)⟩
  · cases e
theorem ok_ne : Op2 K (rNeD K) neD := by
  intro G H v w x y z Q s dx dy e k
  unfold neD at e
  split at e
  · rename_i h
    cases e
    exact ⟨_, _, den_dp 6 (dx.mono s) h.1, den_dp 6 (dy.mono s) h.2, okd_shaped h.1, okd_shaped h.2, k _ _ _ (Ext.refl s) (.bl _)⟩
  · cases e

/-! ### subscripts -/
def ixD : D → D → Option D
  | .lst xs, .int i => atI xs i
  | .tup xs, .int i => atI xs i
  | .scr ns, .int i => (atI ns i).map D.int
  | _, _ => none
theorem atI_den {G : Hp} {vs : List V} {xs : List D} {i : Int} {z : D} (h : Dens K G vs xs) (e : atI xs i = some z) : ∃ u, atI vs i = some u ∧ Den K G u z := by
  unfold atI at e ⊢
  rw [h.length]
  cases q : ixN xs.length i with
  | none => rw [q] at e; cases e
  | some j =>
    rw [q] at e
    exact h.get e
def rIxD (K : Fr) : R2 := fun x y H Q => rIxL K x y H Q ∨ rIxT K x y H Q
theorem ix_D : IxR X (rIxD X.K) := ix_list.or ix_tup
theorem atI_map {α β : Type} {g : α → β} {xs : List α} {i : Int} : atI (xs.map g) i = (atI xs i).map g := by
  unfold atI
  rw [List.length_map]
  cases ixN xs.length i with
  | none => rfl
  | some j => simp
theorem ok_ix : Op2 K (rIxD K) ixD := by
  intro G H v w x y z Q s dx dy e k
  cases dy with
  | int i =>
    cases dx with
    | @lst a vs xs ha hd =>
      obtain ⟨u, e1, d1⟩ := atI_den hd e
      exact .inl ⟨a, vs, i, u, rfl, rfl, SqL.of (s _ _ ha), e1, k _ _ _ (Ext.refl s) d1⟩
    | @tup a vs xs ha hd =>
      obtain ⟨u, e1, d1⟩ := atI_den hd e
      exact .inr ⟨a, vs, i, u, rfl, rfl, ex_t s ha, e1, k _ _ _ (Ext.refl s) d1⟩
    | @scr a ns ha =>
      have e' : (atI ns i).map D.int = some z := e
      cases q : atI ns i with
      | none => rw [q] at e'; cases e'
      | some m =>
        rw [q] at e'
        cases e'
        exact .inl ⟨a, ns.map V.int, i, .int m, rfl, rfl, ex_l s ha, by rw [atI_map, q]; rfl, k _ _ _ (Ext.refl s) (.int m)⟩
    | _ => cases e
  | _ => cases x <;> cases e
/-! ### slices -/
def cutD (xs : List D) (lo hi : Option Int) : List D := (xs.drop (HT.sIx xs.length 0 lo)).take (HT.sIx xs.length xs.length hi - HT.sIx xs.length 0 lo)
theorem cut_den {G : Hp} {vs : List V} {xs : List D} (h : Dens K G vs xs) (lo hi : Option Int) : Dens K G (cutV vs lo hi) (cutD xs lo hi) := by
  unfold cutV cutD
  rw [h.length]
  exact (h.drop _).take _
def slD (x : D) (lo hi : Option Int) : Option D := match x with
  | .lst xs => some (.lst (cutD xs lo hi))
  | .tup xs => if HT.sIx xs.length 0 lo = 0 ∧ HT.sIx xs.length xs.length hi = xs.length then none else some (.tup (cutD xs lo hi))
  | _ => none
abbrev MO := Store → R (Option Int)
def oNone : MO := fun _ => .ok none
def asInt : D → Option (Option Int)
  | .int i => some (some i)
  | _ => none
def oSome (f : ME) : MO := fun st => (f st).bind fun x => R.of (asInt x)
def eSl (f : ME) (l h : MO) : ME := fun st => (f st).bind fun x => (l st).bind fun lo => (h st).bind fun hi => R.of (slD x lo hi)
def tO (K : Fr) (ea : Addr) (W : WX) (f : MO) : TO := fun σ H Q => ∃ H0 G st, Rel K ea H0 G H σ st ∧ aft K W σ G H (f st) fun o _ H' => Q o H'
theorem _root_.L2.PO.weak {X : Cx} {e : Option Expr} {t t' : TO} (h : PO X e t) (w : ∀ σ H Q, t' σ H Q → t σ H Q) : PO X e t' := ⟨fun pins s σ H Q I q => h.run pins s σ H Q I (w σ H Q q)⟩
variable {ea : Addr} {W : WX}
theorem go_none : PO X none (tO X.K ea W oNone) := po_none.weak fun σ H Q h => by
  obtain ⟨H0, G, st, rl, a⟩ := h
  exact a G H (Ext.refl rl.s)
theorem go_some {e : Expr} {f : ME} (h : PE X e (tE X.K ea W f)) : PO X (some e) (tO X.K ea W (oSome f)) := (po_some h).weak fun σ H Q h => by
  obtain ⟨H0, G, st, rl, a⟩ := h
  refine ⟨H0, G, st, rl, aft_mono (aft_bind a) fun x G1 H1 e1 a1 v dv => ?_⟩
  obtain ⟨z, ez, k⟩ := aft_of a1
  cases x with
  | int i =>
    cases ez
    exact ⟨i, dv.int_inv, k G1 H1 (Ext.refl e1.s)⟩
  | _ => cases ez
def rSlD (K : Fr) : V → Option Int → Option Int → Hp → VK → Prop := fun x lo hi H Q => rSlL K x lo hi H Q ∨ rSlT K x lo hi H Q
theorem sl_D : SlR X (rSlD X.K) := sl_list.or sl_tup
theorem ok_sl {G H : Hp} {v : V} {x z : D} {lo hi : Option Int} {Q : VK} (s : Ex G H) (dx : Den K G v x) (e : slD x lo hi = some z) (k : ∀ u G' H', Ext G H G' H' → Den K G' u z → Q u H') : rSlD K v lo hi H Q := by
  cases dx with
  | @lst a vs xs ha hd =>
    cases e
    refine .inl ⟨a, vs, rfl, SqL.of (s _ _ ha), fun p hp => ?_⟩
    have ex := Ext.new (G := G) (H := H) (p := p) (o := .lst (cutV vs lo hi)) s hp
    exact k _ _ _ ex (.lst upd_same (cut_den (hd.mono ex.g) lo hi))
  | @tup a vs xs ha hd =>
    have e' : (if HT.sIx xs.length 0 lo = 0 ∧ HT.sIx xs.length xs.length hi = xs.length then none else some (D.tup (cutD xs lo hi))) = some z := e
    split at e'
    · cases e'
    · rename_i hn
      cases e'
      refine .inr ⟨a, vs, rfl, ex_t s ha, by rw [hd.length]; exact hn, fun p hp => ?_⟩
      have ex := Ext.new (G := G) (H := H) (p := p) (o := .tup (cutV vs lo hi)) s hp
      exact k _ _ _ ex (.tup (SqT.of upd_same) (cut_den (hd.mono ex.g) lo hi))
  | _ => cases e
theorem g_sl {e : Expr} {lo hi : Option Expr} {f : ME} {l h : MO} {p2 pos : Pos} (he : PE X e (tE X.K ea W f)) (hl : PO X lo (tO X.K ea W l)) (hh : PO X hi (tO X.K ea W h)) : PE X (.Subscript e (.Slice lo hi none p2) pos) (tE X.K ea W (eSl f l h)) :=
  (pe_slice sl_D he hl hh).weak fun σ H Q hq => by
    obtain ⟨H0, G, st, rl, a⟩ := hq
    refine ⟨H0, G, st, rl, aft_mono (aft_bind a) fun x G1 H1 e1 a1 v dv => ?_⟩
    refine ⟨H0, G1, st, rl.ext e1, aft_mono (aft_bind a1) fun lo G2 H2 e2 a2 => ?_⟩
    refine ⟨H0, G2, st, (rl.ext e1).ext e2, aft_mono (aft_bind a2) fun hi G3 H3 e3 a3 => ?_⟩
    obtain ⟨z, ez, k⟩ := aft_of a3
    exact ok_sl e3.s ((dv.mono e2.g).mono e3.g) ez fun u G' H' e du => k G' H' e u du
/-- xs[::-1] -/
def revD : D → Option D
  | .lst xs => some (.lst xs.reverse)
  | _ => none
theorem g_rev {e : Expr} {f : ME} {k : Nat} {p1 p2 p3 pos : Pos} (he : PE X e (tE X.K ea W f)) : PE X (.Subscript e (.Slice none none (some (.UnaryOp .USub (.Constant (.int 1) k p1) p2)) p3) pos) (tE X.K ea W (unr revD f)) :=
  (pe_revL he).weak fun σ H Q hq => by
    obtain ⟨H0, G, st, rl, a⟩ := hq
    refine ⟨H0, G, st, rl, aft_mono (aft_bind a) fun x G1 H1 e1 a1 v dv => ?_⟩
    obtain ⟨z, ez, k⟩ := aft_of a1
    cases dv with
    | @lst a vs xs ha hd =>
      cases ez
      refine ⟨a, vs, rfl, SqL.of (e1.s _ _ ha), fun p hp => ?_⟩
      have ex := Ext.new (G := G1) (H := H1) (p := p) (o := .lst vs.reverse) e1.s hp
      exact k _ _ ex _ (.lst upd_same ((hd.mono ex.g).reverse))
    | _ => cases ez
/-! ### displays -/
def eTup (a : MA) : ME := fun st => (a st).bind fun xs => if xs.length ≤ 100000 then .ok (.tup xs) else .no
def eLst (a : MA) : ME := fun st => (a st).bind fun xs => if xs.length ≤ 100000 then .ok (.lst xs) else .no
theorem g_tup {es : List Expr} {a : MA} {x1} {pos : Pos} (h : PA X es (tA X.K ea W a)) : PE X (.Tuple es x1 pos) (tE X.K ea W (eTup a)) := (pe_tup h).weak fun σ H Q hq => by
  obtain ⟨H0, G, st, rl, a⟩ := hq
  refine ⟨H0, G, st, rl, aft_mono (aft_bind a) fun xs G1 H1 e1 a1 vs dvs => ?_⟩
  split at a1
  · rename_i hl
    refine ⟨szl (by rw [dvs.length]; exact hl), fun p hp => ?_⟩
    have ex := Ext.new (G := G1) (H := H1) (p := p) (o := .tup vs) e1.s hp
    exact a1 _ _ ex _ (.tup (SqT.of upd_same) (dvs.mono ex.g))
  · exact a1.elim
theorem g_lst {es : List Expr} {a : MA} {pos : Pos} (h : PA X es (tA X.K ea W a)) : PE X (.List es pos) (tE X.K ea W (eLst a)) := (pe_lst h).weak fun σ H Q hq => by
  obtain ⟨H0, G, st, rl, a⟩ := hq
  refine ⟨H0, G, st, rl, aft_mono (aft_bind a) fun xs G1 H1 e1 a1 vs dvs => ?_⟩
  split at a1
  · rename_i hl
    refine ⟨szl (by rw [dvs.length]; exact hl), fun p hp => ?_⟩
    have ex := Ext.new (G := G1) (H := H1) (p := p) (o := .lst vs) e1.s hp
    exact a1 _ _ ex _ (.lst upd_same (dvs.mono ex.g))
  · exact a1.elim
/-! ### built-ins -/
def intsOf : List D → Option (List Int)
  | [] => some []
  | .int i :: r => (intsOf r).map (i :: ·)
  | _ :: _ => none
theorem intsOf_map : ∀ ns : List Int, intsOf (ns.map D.int) = some ns
  | [] => rfl
  | n :: r => by
    show (intsOf (r.map D.int)).map (n :: ·) = some (n :: r)
    rw [intsOf_map r] <;> rfl
theorem intsOf_inv : ∀ {xs : List D} {ns : List Int}, intsOf xs = some ns → xs = ns.map D.int
  | [], ns, h => by cases h; rfl
  | x :: r, ns, h => by
    cases x with
    | int i =>
      have h' : (intsOf r).map (i :: ·) = some ns := h
      cases q : intsOf r with
      | none => rw [q] at h'; cases h'
      | some ms =>
        rw [q] at h'
        cases h'
        rw [intsOf_inv q] <;> rfl
    | _ => cases h
def blsOf : List D → Option (List Bool)
  | [] => some []
  | .bl i :: r => (blsOf r).map (i :: ·)
  | _ :: _ => none
theorem blsOf_map : ∀ ns : List Bool, blsOf (ns.map D.bl) = some ns
  | [] => rfl
  | n :: r => by
    show (blsOf (r.map D.bl)).map (n :: ·) = some (n :: r)
    rw [blsOf_map r] <;> rfl
theorem blsOf_inv : ∀ {xs : List D} {ns : List Bool}, blsOf xs = some ns → xs = ns.map D.bl
  | [], ns, h => by cases h; rfl
  | x :: r, ns, h => by
    cases x with
    | bl i =>
      have h' : (blsOf r).map (i :: ·) = some ns := h
      cases q : blsOf r with
      | none => rw [q] at h'; cases h'
      | some ms =>
        rw [q] at h'
        cases h'
        rw [blsOf_inv q] <;> rfl
    | _ => cases h
def lenB : List D → Option D
  | [.lst xs] => some (.int xs.length)
  | [.tup xs] => some (.int xs.length)
  | [.scr xs] => some (.int xs.length)
  | _ => none
def absB : List D → Option D
  | [.int i] => some (.int (if i < 0 then -i else i))
  | _ => none
def min2B : List D → Option D
  | [.int i, .int j] => some (.int (if j < i then j else i))
  | _ => none
def max2B : List D → Option D
  | [.int i, .int j] => some (.int (if j > i then j else i))
  | _ => none
def maxI : List Int → Option Int
  | [] => none
  | [a] => some a
  | a :: r => (maxI r).map (max a)
def minI : List Int → Option Int
  | [] => none
  | [a] => some a
  | a :: r => (minI r).map (min a)
def lstArg : List D → Option (List D)
  | [.lst xs] => some xs
  | _ => none
theorem lstArg_inv {xs ys : List D} (h : lstArg xs = some ys) : xs = [.lst ys] := by
  match xs, h with
  | [.lst xs], rfl => rfl
def maxB (a : List D) : Option D := (lstArg a).bind fun xs => (intsOf xs).bind fun ns => (maxI ns).map D.int
def minB (a : List D) : Option D := (lstArg a).bind fun xs => (intsOf xs).bind fun ns => (minI ns).map D.int
def sumB (a : List D) : Option D := (lstArg a).bind fun xs => (intsOf xs).map fun ns => D.int ns.sum
def anyB (a : List D) : Option D := (lstArg a).bind fun xs => (blsOf xs).map fun ns => D.bl (ns.any id)
def allB (a : List D) : Option D := (lstArg a).bind fun xs => (blsOf xs).map fun ns => D.bl (ns.all id)
def sortI (ns : List Int) : List Int := ns.mergeSort fun a b => decide (a ≤ b)
def sortB (a : List D) : Option D := (lstArg a).bind fun xs => (intsOf xs).map fun ns => D.lst ((sortI ns).map D.int)
def listB : List D → Option D
  | [.lst xs] => some (.lst xs)
  | [.tup xs] => some (.lst xs)
  | _ => none
theorem sortI_perm (ns : List Int) : (sortI ns).Perm ns := List.mergeSort_perm ..
theorem sortI_sorted (ns : List Int) : (sortI ns).Pairwise (· ≤ ·) := by
  have h := List.pairwise_mergeSort (le := fun a b : Int => decide (a ≤ b)) (fun a b c h1 h2 => by simp at *; omega) (fun a b => by simp; omega) ns
  exact h.imp fun h => by simpa using h
theorem maxI_max : ∀ {ns : List Int} {m : Int}, maxI ns = some m → m ∈ ns ∧ ∀ y ∈ ns, y ≤ m
  | [a], m, h => by cases h; exact ⟨List.mem_cons_self, fun y hy => by simp at hy; omega⟩
  | a :: b :: r, m, h => by
    have h' : (maxI (b :: r)).map (max a) = some m := h
    cases q : maxI (b :: r) with
    | none => rw [q] at h'; cases h'
    | some k =>
      rw [q] at h'
      have e : max a k = m := Option.some.inj h'
      obtain ⟨h1, h2⟩ := maxI_max q
      refine ⟨?_, fun y hy => ?_⟩
      · by_cases z : a ≤ k
        · have : m = k := by omega
          rw [this]
          exact List.mem_cons_of_mem _ h1
        · have : m = a := by omega
          rw [this]
          exact List.mem_cons_self
      · rcases List.mem_cons.mp hy with rfl | hy
        · omega
        · have := h2 y hy
          omega
theorem minI_min : ∀ {ns : List Int} {m : Int}, minI ns = some m → m ∈ ns ∧ ∀ y ∈ ns, m ≤ y
  | [a], m, h => by cases h; exact ⟨List.mem_cons_self, fun y hy => by simp at hy; omega⟩
  | a :: b :: r, m, h => by
    have h' : (minI (b :: r)).map (min a) = some m := h
    cases q : minI (b :: r) with
    | none => rw [q] at h'; cases h'
    | some k =>
      rw [q] at h'
      have e : min a k = m := Option.some.inj h'
      obtain ⟨h1, h2⟩ := minI_min q
      refine ⟨?_, fun y hy => ?_⟩
      · by_cases z : k ≤ a
        · have : m = k := by omega
          rw [this]
          exact List.mem_cons_of_mem _ h1
        · have : m = a := by omega
          rw [this]
          exact List.mem_cons_self
      · rcases List.mem_cons.mp hy with rfl | hy
        · omega
        · have := h2 y hy
          omega
abbrev rLen (K : Fr) : List V → Hp → VK → Prop := fun xs H Q => ∃ p ys, xs = [.ref p] ∧ (SqL K H p ys ∨ SqT K H p ys) ∧ Q (.int ys.length) H
theorem ok_len : OpN K (rLen K) lenB := by
  intro G H vs xs z Q s d e k
  match xs, e with
  | [.lst xs], rfl =>
    cases d with
    | cons h r =>
      cases r
      cases h with
      | @lst a us _ ha hd => exact ⟨a, us, rfl, .inl (SqL.of (s _ _ ha)), by rw [hd.length]; exact k _ _ _ (Ext.refl s) (.int _)⟩
  | [.tup xs], rfl =>
    cases d with
    | cons h r =>
      cases r
      cases h with
      | @tup a us _ ha hd => exact ⟨a, us, rfl, .inr (ex_t s ha), by rw [hd.length]; exact k _ _ _ (Ext.refl s) (.int _)⟩
  | [.scr ns], rfl =>
    cases d with
    | cons h r =>
      cases r
      cases h with
      | @scr a us ha => exact ⟨a, ns.map V.int, rfl, .inl (ex_l s ha), by rw [List.length_map]; exact k _ _ _ (Ext.refl s) (.int _)⟩
theorem ok_abs : OpN K (fun xs H Q => ∃ i, xs = [V.int i] ∧ Q (.int (if i < 0 then -i else i)) H) absB := by
  intro G H vs xs z Q s d e k
  match xs, e with
  | [.int i], rfl =>
    obtain ⟨v, rfl, dv⟩ : ∃ v, vs = [v] ∧ Den K G v (.int i) := by cases d with | cons h r => cases r; exact ⟨_, rfl, h⟩
    exact ⟨i, by rw [dv.int_inv], k _ _ _ (Ext.refl s) (.int _)⟩
theorem two_inv {G : Hp} {vs : List V} {x y : D} (d : Dens K G vs [x, y]) : ∃ v w, vs = [v, w] ∧ Den K G v x ∧ Den K G w y := by
  cases d with
  | cons h r => cases r with | cons h' r' => cases r'; exact ⟨_, _, rfl, h, h'⟩
theorem one_inv {G : Hp} {vs : List V} {x : D} (d : Dens K G vs [x]) : ∃ v, vs = [v] ∧ Den K G v x := by
  cases d with
  | cons h r => cases r; exact ⟨_, rfl, h⟩
theorem ok_min2 : OpN K (fun xs H Q => ∃ i j, xs = [V.int i, V.int j] ∧ Q (.int (if j < i then j else i)) H) min2B := by
  intro G H vs xs z Q s d e k
  match xs, e with
  | [.int i, .int j], rfl =>
    obtain ⟨v, w, rfl, h1, h2⟩ := two_inv d
    exact ⟨i, j, by rw [h1.int_inv, h2.int_inv], k _ _ _ (Ext.refl s) (.int _)⟩
theorem ok_max2 : OpN K (fun xs H Q => ∃ i j, xs = [V.int i, V.int j] ∧ Q (.int (if j > i then j else i)) H) max2B := by
  intro G H vs xs z Q s d e k
  match xs, e with
  | [.int i, .int j], rfl =>
    obtain ⟨v, w, rfl, h1, h2⟩ := two_inv d
    exact ⟨i, j, by rw [h1.int_inv, h2.int_inv], k _ _ _ (Ext.refl s) (.int _)⟩
theorem lst_ints {G H : Hp} {vs : List V} {xs : List D} {ns : List Int} (s : Ex G H) (d : Dens K G vs [.lst xs]) (e : intsOf xs = some ns) : ∃ a, vs = [.ref a] ∧ SqL K H a (ns.map V.int) := by
  obtain ⟨v, rfl, h⟩ := one_inv d
  cases h with
  | @lst a us _ ha hd =>
    rw [intsOf_inv e] at hd
    rw [hd.ints_inv] at ha
    exact ⟨a, rfl, SqL.of (s _ _ ha)⟩
theorem lst_bls {G H : Hp} {vs : List V} {xs : List D} {ns : List Bool} (s : Ex G H) (d : Dens K G vs [.lst xs]) (e : blsOf xs = some ns) : ∃ a, vs = [.ref a] ∧ SqL K H a (ns.map V.bl) := by
  obtain ⟨v, rfl, h⟩ := one_inv d
  cases h with
  | @lst a us _ ha hd =>
    rw [blsOf_inv e] at hd
    rw [hd.bls_inv] at ha
    exact ⟨a, rfl, SqL.of (s _ _ ha)⟩
theorem ok_max : OpN K (rMax K) maxB := by
  intro G H vs xs z Q s d e k
  obtain ⟨ys, h1, e⟩ := Option.bind_eq_some_iff.mp e
  obtain ⟨ns, h2, e⟩ := Option.bind_eq_some_iff.mp e
  obtain ⟨m, h3, rfl⟩ := Option.map_eq_some_iff.mp e
  rw [lstArg_inv h1] at d
  obtain ⟨g1, g2⟩ := maxI_max h3
  obtain ⟨a, e3, hs⟩ := lst_ints s d h2
  refine ⟨a, ns, e3, hs, List.length_pos_of_mem g1, fun m' g3 g4 => ?_⟩
  have : m' = m := by have := g4 m g1; have := g2 m' g3; omega
  rw [this]
  exact k _ _ _ (Ext.refl s) (.int _)
theorem ok_min : OpN K (rMin K) minB := by
  intro G H vs xs z Q s d e k
  obtain ⟨ys, h1, e⟩ := Option.bind_eq_some_iff.mp e
  obtain ⟨ns, h2, e⟩ := Option.bind_eq_some_iff.mp e
  obtain ⟨m, h3, rfl⟩ := Option.map_eq_some_iff.mp e
  rw [lstArg_inv h1] at d
  obtain ⟨g1, g2⟩ := minI_min h3
  obtain ⟨a, e3, hs⟩ := lst_ints s d h2
  refine ⟨a, ns, e3, hs, List.length_pos_of_mem g1, fun m' g3 g4 => ?_⟩
  have : m' = m := by have := g4 m g1; have := g2 m' g3; omega
  rw [this]
  exact k _ _ _ (Ext.refl s) (.int _)
theorem ok_sum : OpN K (rSum K) sumB := by
  intro G H vs xs z Q s d e k
  obtain ⟨ys, h1, e⟩ := Option.bind_eq_some_iff.mp e
  obtain ⟨ns, h2, rfl⟩ := Option.map_eq_some_iff.mp e
  rw [lstArg_inv h1] at d
  obtain ⟨a, e3, hs⟩ := lst_ints s d h2
  exact ⟨a, ns, e3, hs, k _ _ _ (Ext.refl s) (.int _)⟩
theorem ok_any : OpN K (rAny K) anyB := by
  intro G H vs xs z Q s d e k
  obtain ⟨ys, h1, e⟩ := Option.bind_eq_some_iff.mp e
  obtain ⟨ns, h2, rfl⟩ := Option.map_eq_some_iff.mp e
  rw [lstArg_inv h1] at d
  obtain ⟨a, e3, hs⟩ := lst_bls s d h2
  exact ⟨a, ns, e3, hs, k _ _ _ (Ext.refl s) (.bl _)⟩
theorem ok_all : OpN K (rAll K) allB := by
  intro G H vs xs z Q s d e k
  obtain ⟨ys, h1, e⟩ := Option.bind_eq_some_iff.mp e
  obtain ⟨ns, h2, rfl⟩ := Option.map_eq_some_iff.mp e
  rw [lstArg_inv h1] at d
  obtain ⟨a, e3, hs⟩ := lst_bls s d h2
  exact ⟨a, ns, e3, hs, k _ _ _ (Ext.refl s) (.bl _)⟩
theorem ok_sorted : OpN K (rSortedI K) sortB := by
  intro G H vs xs z Q s d e k
  obtain ⟨ys, h1, e⟩ := Option.bind_eq_some_iff.mp e
  obtain ⟨ns, h2, rfl⟩ := Option.map_eq_some_iff.mp e
  rw [lstArg_inv h1] at d
  obtain ⟨a, e3, hs⟩ := lst_ints s d h2
  refine ⟨a, ns, e3, hs, fun ns' p g1 g2 hp => ?_⟩
  have : ns' = sortI ns := PySem.W.ksm_same (g1.trans (sortI_perm ns).symm) g2 (sortI_sorted ns)
  subst this
  have ex := Ext.new (G := G) (H := H) (p := p) (o := .lst ((sortI ns).map V.int)) s hp
  exact k _ _ _ ex (.lst upd_same (dens_ints _))
abbrev rListOf (K : Fr) : List V → Hp → VK → Prop := fun xs H Q => ∃ p ys, xs = [.ref p] ∧ (SqL K H p ys ∨ SqT K H p ys) ∧ ∀ l, H l = none → Q (.ref l) (upd H l (.lst ys))
theorem ok_list : OpN K (rListOf K) listB := by
  intro G H vs xs z Q s d e k
  match xs, e with
  | [.lst xs], rfl =>
    obtain ⟨v, rfl, h⟩ := one_inv d
    cases h with
    | @lst a us _ ha hd =>
      refine ⟨a, us, rfl, .inl (SqL.of (s _ _ ha)), fun p hp => ?_⟩
      have ex := Ext.new (G := G) (H := H) (p := p) (o := .lst us) s hp
      exact k _ _ _ ex (.lst upd_same (hd.mono ex.g))
  | [.tup xs], rfl =>
    obtain ⟨v, rfl, h⟩ := one_inv d
    cases h with
    | @tup a us _ ha hd =>
      refine ⟨a, us, rfl, .inr (ex_t s ha), fun p hp => ?_⟩
      have ex := Ext.new (G := G) (H := H) (p := p) (o := .lst us) s hp
      exact k _ _ _ ex (.lst upd_same (hd.mono ex.g))
/-! ### isinstance(x, T), T a built-in type -/
def tyN : D → String
  | .non => "NoneType"
  | .bl _ => "bool"
  | .int _ => "int"
  | .str _ => "str"
  | .tup _ => "tuple"
  | .lst _ => "list"
  | .scr _ => "list"
  | .adr _ => ""
  | .fn _ => ""
  | .dic _ _ => ""
  | .thk _ _ => ""
def isiD (T : String) : D → Option D
  | .adr _ => none
  | .fn _ => none
  | .dic _ _ => none
  | .thk _ _ => none
  | .scr _ => none
  | x => some (.bl (tyN x == T || (tyN x == "bool" && T == "int")))
def eIsi (T : String) (f : ME) : ME := unr (isiD T) f
/-- data whose type is one of the built-in ones -/
def tyOk : D → Bool
  | .adr _ => false
  | .fn _ => false
  | .scr _ => false
  | .dic _ _ => false
  | .thk _ _ => false
  | _ => true
theorem tyX_den {G H : Hp} {v : V} {x : D} (s : Ex G H) (d : Den K G v x) (h : tyOk x = true) : TyX K H v (.type (tyN x)) := by
  cases d with
  | non => exact .base .non
  | bl b => exact .base (.bl b)
  | int b => exact .base (.int b)
  | str b => exact .base (.str b)
  | lst ha hd => exact .base (.lst (s _ _ ha))
  | tup ha hd =>
    rcases s, ha with ⟨s, (ha | ⟨o, ha⟩) | ha⟩
    · exact .base (.tup (s _ _ ha))
    · exact .fTuple (s _ _ ha)
    · obtain ⟨o, its, n, h1, h2, h3⟩ := ha
      exact .kTuple h1 h2
  | _ => cases h
/-- the answers that the library's look gives -/
def KitT (T : String) : Prop := ∀ x : D, tyOk x = true → kitB (tyN x) T = some (tyN x == T || (tyN x == "bool" && T == "int"))
theorem kit_all {T : String} (h : ∀ t ∈ ["NoneType", "bool", "int", "str", "tuple", "list"], kitB t T = some (t == T || (t == "bool" && T == "int"))) : KitT T := fun x hx => by
  refine h _ ?_
  cases x <;> first
    | simp [tyN]; done
    | cases hx
theorem kit_int : KitT "int" := kit_all (by decide +kernel)
theorem kit_bool : KitT "bool" := kit_all (by decide +kernel)
theorem kit_str : KitT "str" := kit_all (by decide +kernel)
theorem kit_tuple : KitT "tuple" := kit_all (by decide +kernel)
theorem g_isi {T : String} {x : Str} {e : Expr} {f : ME} {p p2 pos : Pos} (kt : KitT T) (hv : bootBuiltins x = some (.type T)) (hI : X.mg "isinstance" = none) (hT : X.mg x = none) (he : PE X e (tE X.K ea W f)) (hg : Gl X "isinstance" := by rfl) (hg2 : Gl X x := by rfl)
    (hn : x ≠ "__name__" := by decide) (hdb : (x == ("__debug__" : Str)) = false := by decide)
    (h1 : starEach [.Name x p2] X.env = (false, eval (.Name x p2) X.env) :: starEach [] X.env := by rfl) (h2 : starEach [e, .Name x p2] X.env = (false, eval e X.env) :: starEach [.Name x p2] X.env := by rfl) (hpl : (backTo pos (starEach [.Name x p2] X.env)).any (·.1) = false := by rfl) :
    PE X (.Call (.Name "isinstance" p) [e, .Name x p2] [] pos) (tE X.K ea W (eIsi T f)) :=
  (pe_callB call_isi hg hI (by decide +kernel) (pa_cons he (pa_cons (pe_bltn hg2 hT hv (v := .ty T) rfl hn hdb) pa_nil h1) h2) (by decide) (by decide) h2 hpl).weak fun σ H Q hq => by
    obtain ⟨H0, G, st, rl, a⟩ := hq
    refine ⟨H0, G, st, rl, aft_mono (aft_bind a) fun x G1 H1 e1 a1 v dv => ?_⟩
    obtain ⟨z, ez, k⟩ := aft_of a1
    have na : tyOk x = true := by cases x <;> first | rfl | cases ez
    have ez' : some (D.bl (tyN x == T || (tyN x == "bool" && T == "int"))) = some z := by
      rw [← ez]
      unfold isiD
      cases x <;> first | rfl | (exfalso; cases na)
    cases ez'
    exact ⟨v, .ty T, _, _, _, rfl, .ty T, tyX_den e1.s dv na, kit_ty (kt x na), k _ _ (Ext.refl e1.s) _ (.bl _)⟩
end
end Pg

namespace Pg
open PySem PySem.Spec PyProof.Rows L2
def asB : D → Option Bool
  | .bl b => some b
  | _ => none
theorem asB_inv {x : D} {b : Bool} (h : asB x = some b) : x = .bl b := by cases x <;> cases h; rfl
def mVal (f : ME) : MT := fun st => (f st).bind fun x => R.of (asB x)
def mAnd (t u : MT) : MT := fun st => (t st).bind fun b => if b = true then u st else .ok false
def mOr (t u : MT) : MT := fun st => (t st).bind fun b => if b = true then .ok true else u st
def mNot (t : MT) : MT := fun st => (t st).bind fun b => .ok (!b)
def vAnd (f g : ME) : ME := fun st => (f st).bind fun x => (R.of (asB x)).bind fun b => if b = true then g st else .ok (.bl false)
def vOr (f g : ME) : ME := fun st => (f st).bind fun x => (R.of (asB x)).bind fun b => if b = true then .ok (.bl true) else g st
def vNot (f : ME) : ME := fun st => (f st).bind fun x => (R.of (asB x)).bind fun b => .ok (.bl (!b))
def eIf (t : MT) (f g : ME) : ME := fun st => (t st).bind fun b => if b = true then f st else g st
def eChn (o o' : D → D → Option D) (f g h : ME) : ME := fun st => (f st).bind fun x => (g st).bind fun y => (R.of (o x y)).bind fun z => (R.of (asB z)).bind fun b => if b = true then (h st).bind fun w => R.of (o' y w) else .ok (.bl false)
section
variable {X : Cx} {K : Fr} {ea : Addr} {W : WX} {a b c : Expr} {rest : List Expr} {f g h : ME} {t u : MT} {pos : Pos}
theorem tT_val : ∀ σ H Q, tT K ea W (mVal f) σ H Q → tB (tE K ea W f) σ H Q := fun σ H Q hq => by
  obtain ⟨H0, G, st, rl, a⟩ := hq
  refine ⟨H0, G, st, rl, aft_mono (aft_bind a) fun x G1 H1 e1 a1 v dv => ?_⟩
  obtain ⟨z, ez, k⟩ := aft_of a1
  rw [asB_inv ez] at dv
  exact ⟨z, dv.bl_inv, k G1 H1 (Ext.refl e1.s)⟩
theorem gt_val {e : Expr} (he : PE X e (tE X.K ea W f)) (hi : ∀ whole, isTrue e X.env whole = (do let v ← whole; standAt e.pos; holding [v] (truthy v)) := by intro _; rfl) : PT X e (tT X.K ea W (mVal f)) := (pt_val he hi).weak tT_val
theorem gw_and1 (ha : PT X a (tT X.K ea W t)) : PW X (.BoolOp .And [a] pos) (tT X.K ea W t) := pw_and1 ha
theorem gw_or1 (ha : PT X a (tT X.K ea W t)) : PW X (.BoolOp .Or [a] pos) (tT X.K ea W t) := pw_or1 ha
theorem gw_and (ha : PT X a (tT X.K ea W t)) (hb : PW X (.BoolOp .And (b :: rest) pos) (tT X.K ea W u)) : PW X (.BoolOp .And (a :: b :: rest) pos) (tT X.K ea W (mAnd t u)) := (pw_and ha hb).weak fun σ H Q hq => by
  obtain ⟨H0, G, st, rl, a⟩ := hq
  refine ⟨H0, G, st, rl, aft_mono (aft_bind a) fun x G1 H1 e1 a1 => ?_⟩
  cases x with
  | true => exact ⟨H0, G1, st, rl.ext e1, a1⟩
  | false => exact a1 G1 H1 (Ext.refl e1.s)
theorem gw_or (ha : PT X a (tT X.K ea W t)) (hb : PW X (.BoolOp .Or (b :: rest) pos) (tT X.K ea W u)) : PW X (.BoolOp .Or (a :: b :: rest) pos) (tT X.K ea W (mOr t u)) := (pw_or ha hb).weak fun σ H Q hq => by
  obtain ⟨H0, G, st, rl, a⟩ := hq
  refine ⟨H0, G, st, rl, aft_mono (aft_bind a) fun x G1 H1 e1 a1 => ?_⟩
  cases x with
  | true => exact a1 G1 H1 (Ext.refl e1.s)
  | false => exact ⟨H0, G1, st, rl.ext e1, a1⟩
theorem gt_not (ha : PT X a (tT X.K ea W t)) : PT X (.UnaryOp .Not a pos) (tT X.K ea W (mNot t)) := (pt_not ha).weak fun σ H Q hq => by
  obtain ⟨H0, G, st, rl, a⟩ := hq
  exact ⟨H0, G, st, rl, aft_mono (aft_bind a) fun x G1 H1 e1 a1 => a1 G1 H1 (Ext.refl e1.s)⟩
theorem g_one {op} (ha : PE X a (tE X.K ea W f)) : PE X (.BoolOp op [a] pos) (tE X.K ea W f) := pe_one ha
theorem g_and (ha : PE X a (tE X.K ea W f)) (hb : PE X (.BoolOp .And (b :: rest) pos) (tE X.K ea W g)) : PE X (.BoolOp .And (a :: b :: rest) pos) (tE X.K ea W (vAnd f g)) := (pe_and ha hb).weak fun σ H Q hq => by
  obtain ⟨H0, G, st, rl, a⟩ := hq
  refine ⟨H0, G, st, rl, aft_mono (aft_bind a) fun x G1 H1 e1 a1 v dv => ?_⟩
  cases ez : asB x with
  | none => rw [ez] at a1; exact a1.elim
  | some z =>
    rw [ez] at a1
    rw [asB_inv ez] at dv
    refine ⟨z, dv.bl_inv, ?_⟩
    cases z with
    | true => exact ⟨H0, G1, st, rl.ext e1, a1⟩
    | false => exact a1 G1 H1 (Ext.refl e1.s) _ (.bl _)
theorem g_or (ha : PE X a (tE X.K ea W f)) (hb : PE X (.BoolOp .Or (b :: rest) pos) (tE X.K ea W g)) : PE X (.BoolOp .Or (a :: b :: rest) pos) (tE X.K ea W (vOr f g)) := (pe_or ha hb).weak fun σ H Q hq => by
  obtain ⟨H0, G, st, rl, a⟩ := hq
  refine ⟨H0, G, st, rl, aft_mono (aft_bind a) fun x G1 H1 e1 a1 v dv => ?_⟩
  cases ez : asB x with
  | none => rw [ez] at a1; exact a1.elim
  | some z =>
    rw [ez] at a1
    rw [asB_inv ez] at dv
    refine ⟨z, dv.bl_inv, ?_⟩
    cases z with
    | false => exact ⟨H0, G1, st, rl.ext e1, a1⟩
    | true => exact a1 G1 H1 (Ext.refl e1.s) _ (.bl _)
theorem g_not (ha : PE X a (tE X.K ea W f)) : PE X (.UnaryOp .Not a pos) (tE X.K ea W (vNot f)) := (pe_not ha).weak fun σ H Q hq => by
  obtain ⟨H0, G, st, rl, a⟩ := hq
  refine ⟨H0, G, st, rl, aft_mono (aft_bind a) fun x G1 H1 e1 a1 v dv => ?_⟩
  cases ez : asB x with
  | none => rw [ez] at a1; exact a1.elim
  | some z =>
    rw [ez] at a1
    rw [asB_inv ez] at dv
    exact ⟨z, dv.bl_inv, a1 G1 H1 (Ext.refl e1.s) _ (.bl _)⟩
theorem g_if (hc : PT X c (tT X.K ea W t)) (ha : PE X a (tE X.K ea W f)) (hb : PE X b (tE X.K ea W g)) : PE X (.IfExp c a b pos) (tE X.K ea W (eIf t f g)) := (pe_ifExp hc ha hb).weak fun σ H Q hq => by
  obtain ⟨H0, G, st, rl, a⟩ := hq
  refine ⟨H0, G, st, rl, aft_mono (aft_bind a) fun x G1 H1 e1 a1 => ?_⟩
  cases x with
  | true => exact ⟨H0, G1, st, rl.ext e1, a1⟩
  | false => exact ⟨H0, G1, st, rl.ext e1, a1⟩
theorem tE_chn {r r' : R2} {o o' : D → D → Option D} (ok : Op2 K r o) (ok' : Op2 K r' o') : ∀ σ H Q, tE K ea W (eChn o o' f g h) σ H Q → tChain r r' (tE K ea W f) (tE K ea W g) (tE K ea W h) σ H Q := fun σ H Q hq => by
  obtain ⟨H0, G, st, rl, a⟩ := hq
  refine ⟨H0, G, st, rl, aft_mono (aft_bind a) fun x G1 H1 e1 a1 v dv => ?_⟩
  refine ⟨H0, G1, st, rl.ext e1, aft_mono (aft_bind a1) fun y G2 H2 e2 a2 w dw => ?_⟩
  cases ez : o x y with
  | none => rw [ez] at a2; exact a2.elim
  | some z =>
    rw [ez] at a2
    refine ok G2 H2 v w x y z _ e2.s (dv.mono e2.g) dw ez fun q G3 H3 e3 dq => ?_
    cases ez2 : asB z with
    | none => unfold R.of at a2; simp only [R.bind] at a2; rw [ez2] at a2; exact a2.elim
    | some k =>
      unfold R.of at a2; simp only [R.bind] at a2; rw [ez2] at a2
      simp only [R.bind] at a2
      rw [asB_inv ez2] at dq
      refine ⟨k, dq.bl_inv, ?_⟩
      cases k with
      | false => exact a2 G3 H3 e3 _ (.bl _)
      | true =>
        have a3 : aft K W σ G2 H2 ((h st).bind fun w => R.of (o' y w)) (fun d G' H' => ∀ v, Den K G' v d → Q v H') := a2
        have a4 : aft K W σ G3 H3 ((h st).bind fun w => R.of (o' y w)) (fun d G' H' => ∀ v, Den K G' v d → Q v H') := by
          cases q1 : (h st).bind fun w => R.of (o' y w) with
          | no => rw [q1] at a3; exact a3
          | rs c => rw [q1] at a3; exact fun G4 H4 e4 => a3 G4 H4 (e3.trans e4)
          | ok d => rw [q1] at a3; exact fun G4 H4 e4 => a3 G4 H4 (e3.trans e4)
        refine ⟨H0, G3, st, ((rl.ext e1).ext e2).ext e3, aft_mono (aft_bind a4) fun w2 G4 H4 e4 a5 u du => ?_⟩
        obtain ⟨z2, ez3, k2⟩ := aft_of a5
        exact ok' G4 H4 _ _ y w2 z2 Q e4.s ((dw.mono e3.g).mono e4.g) du ez3 fun u G' H' e du => k2 G' H' e u du
theorem g_chn {op op' : CmpOp} {r r' : R2} {o o' : D → D → Option D} (ho : OpR X (compareOp op) r) (ok : Op2 X.K r o) (ho' : OpR X (compareOp op') r') (ok' : Op2 X.K r' o') (ha : PE X a (tE X.K ea W f)) (hb : PE X b (tE X.K ea W g)) (hc : PE X c (tE X.K ea W h))
    (hm : lastMarks [op, op'] [b, c] = false := by with_unfolding_all rfl) : PE X (.Compare a [op, op'] [b, c] pos) (tE X.K ea W (eChn o o' f g h)) := (pe_chain ho ho' ha hb hc hm).weak (tE_chn ok ok')
theorem gt_chn {op op' : CmpOp} {r r' : R2} {o o' : D → D → Option D} (ho : OpR X (compareOp op) r) (ok : Op2 X.K r o) (ho' : OpR X (compareOp op') r') (ok' : Op2 X.K r' o') (ha : PE X a (tE X.K ea W f)) (hb : PE X b (tE X.K ea W g)) (hc : PE X c (tE X.K ea W h))
    (hm : lastMarks [op, op'] [b, c] = false := by with_unfolding_all rfl) : PT X (.Compare a [op, op'] [b, c] pos) (tT X.K ea W (mVal (eChn o o' f g h))) := (pt_chain ho ho' ha hb hc hm).weak fun σ H Q hq => by
  have h1 := tT_val (f := eChn o o' f g h) σ H Q hq
  exact tE_chn ok ok' σ H _ h1
end

/-! ### calls of the text's own defs -/
/-- a def does what F says: of n arguments -/
def spOf (K : Fr) (n : Nat) (F : List D → R D) : Sp := fun vs H Q E => ∃ G ds, vs.length = n ∧ Ex G H ∧ Dens K G vs ds ∧ match F ds with
  | .ok d => ∀ v G' H', Ext G H G' H' → Den K G' v d → Q v H'
  | .rs c => ∀ G' H', Ext G H G' H' → E (.ref (He.ga K c)) none H'
  | .no => False
def eCall (n : Nat) (F : List D → R D) (a : MA) : ME := fun st => (a st).bind fun ds => if ds.length = n then F ds else .no
/-- a def of the text as a caller takes it -/
structure DefK (P : Program) (w : World) (K : Fr) (mg : Str → Option Value) (base : Heap) (x : Str) (k n : Nat) (F : List D → R D) : Prop where
  m : mg x = some (.ref (He.ga K x))
  kp : PySem.W.keepIn K (.ref (He.ga K x)) = true
  ex : ∃ (fd : FuncData) (ps : List Str), FnOk P w K mg base (L2.CX P w) k (He.ga K x) fd ps (spOf K n F) ∧ Binds K fd ps []
abbrev Def (X : Cx) (x : Str) (k n : Nat) (F : List D → R D) : Prop := DefK X.prog X.w X.K X.mg X.base x k n F
section
variable {X : Cx} {ea : Addr} {W : WX} {x : Str} {k n : Nat} {F : List D → R D} {e : Expr} {es : List Expr} {a : MA} {p pos : Pos}
theorem g_call (df : Def X x k n F) (hr : Room k X.A) (tk : Takes X W) (ha : PA X (e :: es) (tA X.K ea W a)) (hg : Gl X x := by rfl) (hdb : (x == ("__debug__" : Str)) = false := by decide)
    (he : starEach (e :: es) X.env = (false, eval e X.env) :: starEach es X.env := by rfl) (hpl : (backTo pos (starEach es X.env)).any (·.1) = false := by rfl) :
    PE X (.Call (.Name x p) (e :: es) [] pos) (tE X.K ea W (eCall n F a)) := by
  obtain ⟨fd, ps, Fn, hb⟩ := df.ex
  refine (pe_callSD (dvs := []) (E := WE W) Fn hr hg df.m df.kp hb .nil (fun σ => passAt tk σ) ha hdb he hpl).weak fun σ H Q hq => ?_
  obtain ⟨H0, G, st, rl, a⟩ := hq
  refine ⟨H0, G, st, rl, aft_mono (aft_bind a) fun ds G1 H1 e1 a1 vs dvs => ?_⟩
  show spOf X.K n F (vs ++ []) H1 Q (WE W σ)
  rw [List.append_nil]
  split at a1
  · rename_i hl
    refine ⟨G1, ds, by rw [dvs.length]; exact hl, e1.s, dvs, ?_⟩
    cases q : F ds with
    | no => rw [q] at a1; exact a1
    | rs c => rw [q] at a1; exact a1
    | ok d => rw [q] at a1; exact fun v G' H' e dv => a1 G' H' e v dv
  · exact a1.elim
/-- a def's name as a value -/
theorem g_fn {x : Str} {pos : Pos} (hm : X.mg x = some (.ref (He.ga X.K x))) (hg : Gl X x := by rfl) (hdb : (x == ("__debug__" : Str)) = false := by decide) : PE X (.Name x pos) (tE X.K ea W (eC (.fn x))) :=
  g_glob (v := .ref (He.ga X.K x)) hm rfl (fun _ => .fn x) hg hdb
/-- a call of what an expression gives: one of the defs of the table -/
def eCallV (tab : Str → Option (Nat × (List D → R D))) (ff : ME) (a : MA) : ME := fun st => (ff st).bind fun d => match d with
  | .fn x => (match tab x with
    | some nF => (a st).bind fun ds => if ds.length = nF.1 then nF.2 ds else .no
    | none => .no)
  | _ => .no
theorem g_callV {tab : Str → Option (Nat × (List D → R D))} {fe : Expr} {ff : ME} (hf : PE X fe (tE X.K ea W ff)) (ht : ∀ x nF, tab x = some nF → Def X x k nF.1 nF.2) (hr : Room k X.A) (tk : Takes X W) (ha : PA X (e :: es) (tA X.K ea W a))
    (he : starEach (e :: es) X.env = (false, eval e X.env) :: starEach es X.env := by rfl) (hpl : (backTo pos (starEach es X.env)).any (·.1) = false := by rfl)
    (hc : eval (.Call fe (e :: es) [] pos) X.env = (do callWith pos (← eval fe X.env) [] (backTo pos (starEach (e :: es) X.env)) (backToKw pos (keywordEach [] X.env))) := by rfl) :
    PE X (.Call fe (e :: es) [] pos) (tE X.K ea W (eCallV tab ff a)) := by
  refine ⟨fun pins s σ H Q I hq => ?_⟩
  obtain ⟨H0, G, st, rl, a⟩ := hq
  refine Call_ (thn (hf.run pins s σ H (fun v H1 => ∃ G1 x nF, Ext G H G1 H1 ∧ v = .ref (He.ga X.K x) ∧ tab x = some nF ∧ aft X.K W σ G1 H1 ((‹MA› st).bind fun ds => if ds.length = nF.1 then nF.2 ds else .no) fun d G' H' => ∀ v, Den X.K G' v d → Q v H') I ?_) fun u s1 hh => ?_) hc
  · refine ⟨H0, G, st, rl, aft_mono (aft_bind a) fun d G1 H1 e1 a1 v dv => ?_⟩
    cases dv with
    | fn x =>
      cases q : tab x with
      | none => simp only [q] at a1; exact a1.elim
      | some nF => simp only [q] at a1; exact ⟨G1, x, nF, e1, rfl, q, a1⟩
    | _ => exact a1.elim
  · obtain ⟨v, H1, I1, r1, G1, x, nF, e1, rfl, q, a1⟩ := hh
    cases r1
    obtain ⟨fd, ps, Fn, hb⟩ := (ht x nF q).ex
    refine PySem.W.callWith_K (h₀ := X.base) I1.ok.mod.kin (ht x nF q).kp (thn (ha.run pos pins s1 σ H1 (fun vs H2 => spOf X.K nF.1 nF.2 vs H2 Q (WE W σ)) I1 ?_) fun us s2 ⟨vs, H2, I2, r, q2⟩ => ⟨I2.kIn, ?_⟩) he hpl
    · refine ⟨H0, G1, st, rl.ext e1, aft_mono (aft_bind a1) fun ds G2 H2 e2 a2 vs dvs => ?_⟩
      split at a2
      · rename_i hl
        refine ⟨G2, ds, by rw [dvs.length]; exact hl, e2.s, dvs, ?_⟩
        cases q : nF.2 ds with
        | no => rw [q] at a2; exact a2
        | rs c => rw [q] at a2; exact a2
        | ok d => rw [q] at a2; exact fun v G' H' e dv => a2 G' H' e v dv
      · exact a2.elim
    · exact run_fnS (E := WE W) Fn hr hb (passAt tk σ) I2 r q2
end
end Pg

namespace Pg
open PySem PySem.Spec PyProof.Rows L2
/-! ### what a loop walks -/
structure WalkD (K : Fr) (J : It) (G0 : Hp) (ds : List D) : Prop where
  goes : ∀ i H, i < ds.length → Ex G0 H → J.go i H
  stops : ∀ H, Ex G0 H → J.stop ds.length H
  yields : ∀ i G H x H', i < ds.length → Ex G0 G → Ex G H → J.yld i H x H' → ∃ G' d, ds[i]? = some d ∧ Ext G H G' H' ∧ Den K G' x d
def tI (K : Fr) (ea : Addr) (W : WX) (f : MA) : TI := fun σ H R => ∃ H0 G st, Rel K ea H0 G H σ st ∧ aft K W σ G H (f st) fun ds G' H' => ∀ J, WalkD K J G' ds → R J H'
theorem _root_.L2.PI.weak {X : Cx} {tg e : Expr} {t t' : TI} (h : PI X tg e t) (w : ∀ σ H Q, t' σ H Q → t σ H Q) : PI X tg e t' := ⟨fun pins s σ H Q I q => h.run pins s σ H Q I (w σ H Q q)⟩
def lstD : D → Option (List D)
  | .lst xs => some xs
  | _ => none
def tupD : D → Option (List D)
  | .tup xs => some xs
  | _ => none
def iSeq (sel : D → Option (List D)) (f : ME) : MA := fun st => (f st).bind fun d => R.of (sel d)
def iArg (sel : List D → Option (List D)) (a : MA) : MA := fun st => (a st).bind fun ds => R.of (sel ds)
section
variable {K : Fr} {G0 : Hp} {a b : Addr} {vs us : List V} {xs ys : List D}
theorem wd_list (h : G0 a = some (.lst vs)) (hd : Dens K G0 vs xs) : WalkD K (Itl K a) G0 xs where
  goes := fun i H hi e => walk_list.goes i H (by rw [hd.length]; exact hi) (SqL.of (e _ _ h))
  stops := fun H e => by rw [← hd.length]; exact walk_list.stops H (SqL.of (e _ _ h))
  yields := fun i G H x H' hi e0 e y => by
    obtain ⟨rfl, hx⟩ := walk_list.yields i H x H' (by rw [hd.length]; exact hi) (SqL.of (e _ _ (e0 _ _ h))) y
    obtain ⟨d, e1, e2⟩ := hd.getV hx
    exact ⟨G, d, e1, Ext.refl e, e2.mono e0⟩
theorem wd_tup (h : SqT K G0 a vs) (hd : Dens K G0 vs xs) : WalkD K (Itt K a) G0 xs where
  goes := fun i H hi e => walk_tup.goes i H (by rw [hd.length]; exact hi) (ex_t e h)
  stops := fun H e => by rw [← hd.length]; exact walk_tup.stops H (ex_t e h)
  yields := fun i G H x H' hi e0 e y => by
    obtain ⟨rfl, hx⟩ := walk_tup.yields i H x H' (by rw [hd.length]; exact hi) (ex_t (e0.trans e) h) y
    obtain ⟨d, e1, e2⟩ := hd.getV hx
    exact ⟨G, d, e1, Ext.refl e, e2.mono e0⟩
def rangeI (lo : Int) (n : Nat) : List D := (List.range n).map fun i => .int (lo + (i : Nat))
theorem wd_range {lo : Int} {n : Nat} : WalkD K (Itr lo n) G0 (rangeI lo n) where
  goes := fun i H hi e => by unfold rangeI at hi; simp only [List.length_map, List.length_range] at hi; exact hi
  stops := fun H e => by unfold rangeI; simp only [List.length_map, List.length_range]; exact Nat.le_refl _
  yields := fun i G H x H' hi e0 e y => by
    obtain ⟨rfl, rfl⟩ := y
    unfold rangeI at hi
    simp only [List.length_map, List.length_range] at hi
    exact ⟨G, .int (lo + (i : Nat)), by unfold rangeI; simp [hi], Ext.refl e, .int _⟩
/-- new pairs -/
theorem wd_pair {J : It} {n : Nat} {P : Hp → Prop} {f g : Nat → Option V} (w : Walk J n P (YPair f g)) (hP : ∀ H, Ex G0 H → P H) {ds : List D} (hn : ds.length = n)
    (hf : ∀ i x y, f i = some x → g i = some y → ∃ dx dy, ds[i]? = some (.tup [dx, dy]) ∧ Den K G0 x dx ∧ Den K G0 y dy) : WalkD K J G0 ds where
  goes := fun i H hi e => w.goes i H (by rw [← hn]; exact hi) (hP H e)
  stops := fun H e => by rw [hn]; exact w.stops H (hP H e)
  yields := fun i G H x H' hi e0 e y => by
    obtain ⟨T, u, v, rfl, hT, rfl, hu, hv⟩ := w.yields i H x H' (by rw [← hn]; exact hi) (hP H (e0.trans e)) y
    obtain ⟨dx, dy, e1, d1, d2⟩ := hf i u v hu hv
    have ex := Ext.new (G := G) (H := H) (p := T) (o := .tup [u, v]) e hT
    exact ⟨_, _, e1, ex, .tup (SqT.of upd_same) (.cons (d1.mono (e0.trans ex.g)) (.cons (d2.mono (e0.trans ex.g)) .nil))⟩
end
def zipD (xs ys : List D) : List D := List.zipWith (fun x y => D.tup [x, y]) xs ys
def zipA : List D → Option (List D)
  | [.lst xs, .lst ys] => some (zipD xs ys)
  | _ => none
def enumD (n : Nat) : List D → List D
  | [] => []
  | x :: xs => .tup [.int (n : Nat), x] :: enumD (n + 1) xs
def enumA : List D → Option (List D)
  | [.lst xs] => some (enumD 0 xs)
  | _ => none
theorem enumD_length : ∀ (n : Nat) (xs : List D), (enumD n xs).length = xs.length
  | _, [] => rfl
  | n, x :: xs => congrArg Nat.succ (enumD_length (n + 1) xs)
theorem enumD_get : ∀ (n : Nat) (xs : List D) (i : Nat), (enumD n xs)[i]? = xs[i]?.map fun x => D.tup [.int ((n + i : Nat) : Int), x]
  | _, [], i => by simp [enumD]
  | n, x :: xs, 0 => by simp [enumD]
  | n, x :: xs, i + 1 => by
    unfold enumD
    rw [List.getElem?_cons_succ, List.getElem?_cons_succ, enumD_get (n + 1) xs i]
    have : n + 1 + i = n + (i + 1) := by omega
    rw [this]
def range1A : List D → Option (List D)
  | [.int n] => if n ≤ 100000 ∧ -100000 ≤ n then some (rangeI 0 n.toNat) else none
  | _ => none
def range2A : List D → Option (List D)
  | [.int a, .int b] => if (-100000 ≤ a ∧ a ≤ 100000) ∧ -100000 ≤ b ∧ b ≤ 100000 then some (rangeI a (b - a).toNat) else none
  | _ => none
section
variable {X : Cx} {ea : Addr} {W : WX} {tg e : Expr} {f : ME} {a : MA} {pos p : Pos}
theorem gi_list (h : PE X e (tE X.K ea W f)) : PI X tg e (tI X.K ea W (iSeq lstD f)) := (pi_list h).weak fun σ H R hq => by
  obtain ⟨H0, G, st, rl, a⟩ := hq
  refine ⟨H0, G, st, rl, aft_mono (aft_bind a) fun x G1 H1 e1 a1 v dv => ?_⟩
  obtain ⟨z, ez, k⟩ := aft_of a1
  cases dv with
  | @lst a vs xs ha hd =>
    cases ez
    exact ⟨a, rfl, ⟨vs, SqL.of (e1.s _ _ ha)⟩, k G1 H1 (Ext.refl e1.s) _ (wd_list ha hd)⟩
  | _ => cases ez
theorem gi_tup (h : PE X e (tE X.K ea W f)) : PI X tg e (tI X.K ea W (iSeq tupD f)) := (pi_tup h).weak fun σ H R hq => by
  obtain ⟨H0, G, st, rl, a⟩ := hq
  refine ⟨H0, G, st, rl, aft_mono (aft_bind a) fun x G1 H1 e1 a1 v dv => ?_⟩
  obtain ⟨z, ez, k⟩ := aft_of a1
  cases dv with
  | @tup a vs xs ha hd =>
    cases ez
    exact ⟨a, rfl, ⟨vs, ex_t e1.s ha⟩, k G1 H1 (Ext.refl e1.s) _ (wd_tup ha hd)⟩
  | _ => cases ez
theorem gi_range1 (hm : X.mg "range" = none) (ha : PA X [e] (tA X.K ea W a)) (hg : Gl X "range" := by rfl) (hs : starEach [e] X.env = [(false, eval e X.env)] := by rfl) : PI X tg (.Call (.Name "range" p) [e] [] pos) (tI X.K ea W (iArg range1A a)) := (pi_range1 hg hm ha hs).weak fun σ H R hq => by
  obtain ⟨H0, G, st, rl, a⟩ := hq
  refine ⟨H0, G, st, rl, aft_mono (aft_bind a) fun ds G1 H1 e1 a1 vs dvs => ?_⟩
  obtain ⟨z, ez, k⟩ := aft_of a1
  match ds, ez with
  | [.int n], ez =>
    simp only [range1A] at ez
    split at ez
    · rename_i hn
      cases ez
      obtain ⟨v, rfl, dv⟩ := one_inv dvs
      exact ⟨n, by rw [dv.int_inv], by omega, by omega, k G1 H1 (Ext.refl e1.s) _ wd_range⟩
    · cases ez
theorem gi_range2 {e2 : Expr} (hm : X.mg "range" = none) (ha : PA X [e, e2] (tA X.K ea W a)) (hg : Gl X "range" := by rfl) (hs : starEach [e, e2] X.env = [(false, eval e X.env), (false, eval e2 X.env)] := by rfl) (hs2 : starEach [e2] X.env = [(false, eval e2 X.env)] := by rfl) :
    PI X tg (.Call (.Name "range" p) [e, e2] [] pos) (tI X.K ea W (iArg range2A a)) := (pi_range2 hg hm ha hs hs2).weak fun σ H R hq => by
  obtain ⟨H0, G, st, rl, a⟩ := hq
  refine ⟨H0, G, st, rl, aft_mono (aft_bind a) fun ds G1 H1 e1 a1 vs dvs => ?_⟩
  obtain ⟨z, ez, k⟩ := aft_of a1
  match ds, ez with
  | [.int i, .int j], ez =>
    simp only [range2A] at ez
    split at ez
    · rename_i hn
      cases ez
      obtain ⟨v, w, rfl, d1, d2⟩ := two_inv dvs
      exact ⟨i, j, by rw [d1.int_inv, d2.int_inv], by omega, k G1 H1 (Ext.refl e1.s) _ wd_range⟩
    · cases ez
theorem gi_zip {e2 : Expr} {elts : List Expr} {kk : Nat} {tpos : Pos} (hm : X.mg "zip" = none) (ha : PA X [e, e2] (tA X.K ea W a)) (hg : Gl X "zip" := by rfl) (hs : starEach [e, e2] X.env = (false, eval e X.env) :: starEach [e2] X.env := by rfl) (hpl : (backTo pos (starEach [e2] X.env)).any (·.1) = false := by rfl) :
    PI X (.Tuple elts kk tpos) (.Call (.Name "zip" p) [e, e2] [] pos) (tI X.K ea W (iArg zipA a)) := (pi_zip hg hm ha hs hpl).weak fun σ H R hq => by
  obtain ⟨H0, G, st, rl, a⟩ := hq
  refine ⟨H0, G, st, rl, aft_mono (aft_bind a) fun ds G1 H1 e1 a1 vs dvs => ?_⟩
  obtain ⟨z, ez, k⟩ := aft_of a1
  match ds, ez with
  | [.lst xs, .lst ys], rfl =>
    obtain ⟨v, w, rfl, d1, d2⟩ := two_inv dvs
    cases d1 with
    | @lst a us _ h1 hd1 =>
      cases d2 with
      | @lst b ws _ h2 hd2 =>
        refine ⟨a, b, us, ws, rfl, SqL.of (e1.s _ _ h1), SqL.of (e1.s _ _ h2), k G1 H1 (Ext.refl e1.s) _ (wd_pair (walk_zip rfl) (fun H e => ⟨SqL.of (e _ _ h1), SqL.of (e _ _ h2)⟩) ?_ fun i x y hx hy => ?_)⟩
        · unfold zipD
          rw [List.length_zipWith, hd1.length, hd2.length]
        · obtain ⟨dx, p1, q1⟩ := hd1.getV hx
          obtain ⟨dy, p2, q2⟩ := hd2.getV hy
          exact ⟨dx, dy, by unfold zipD; rw [List.getElem?_zipWith, p1, p2], q1, q2⟩
theorem gi_enum {elts : List Expr} {kk : Nat} {tpos : Pos} (hm : X.mg "enumerate" = none) (ha : PA X [e] (tA X.K ea W a)) (hg : Gl X "enumerate" := by rfl) (hs : starEach [e] X.env = [(false, eval e X.env)] := by rfl) :
    PI X (.Tuple elts kk tpos) (.Call (.Name "enumerate" p) [e] [] pos) (tI X.K ea W (iArg enumA a)) := (pi_enum hg hm ha hs).weak fun σ H R hq => by
  obtain ⟨H0, G, st, rl, a⟩ := hq
  refine ⟨H0, G, st, rl, aft_mono (aft_bind a) fun ds G1 H1 e1 a1 vs dvs => ?_⟩
  obtain ⟨z, ez, k⟩ := aft_of a1
  match ds, ez with
  | [.lst xs], rfl =>
    obtain ⟨v, rfl, d1⟩ := one_inv dvs
    cases d1 with
    | @lst a us _ h1 hd1 =>
      refine ⟨a, us, rfl, SqL.of (e1.s _ _ h1), k G1 H1 (Ext.refl e1.s) _ (wd_pair walk_enum (fun H e => SqL.of (e _ _ h1)) (by rw [enumD_length, hd1.length]) fun i x y hx hy => ?_)⟩
      obtain ⟨dy, p2, q2⟩ := hd1.getV hy
      cases hx
      exact ⟨.int (i : Nat), dy, by rw [enumD_get, p2]; simp, .int _, q2⟩
end

/-! ### targets -/
def bName (i : Nat) : D → Store → Option Store := fun d st => some (st.set i (.dat d))
def setAll : List Nat → List D → Store → Store
  | i :: is, d :: ds, st => setAll is ds (st.set i (.dat d))
  | _, _, st => st
def bTup (is : List Nat) : D → Store → Option Store := fun d st => match d with
  | .tup ds => if ds.length = is.length then some (setAll is ds st) else none
  | _ => none
def bLst (is : List Nat) : D → Store → Option Store := fun d st => match d with
  | .lst ds => if ds.length = is.length then some (setAll is ds st) else none
  | _ => none
def tgs : List Nat → TGs
  | [] => gNil
  | i :: is => gCons (gName i) (tgs is)
/-- a target g stores as b does, in the slots bs -/
def GOk (K : Fr) (bs : List Nat) (g : TG) (b : D → Store → Option Store) : Prop := ∀ (ea : Addr) (H0 G H : Hp) (v : V) (σ : L2.St) (st st' : Store) (d : D) (Q : L2.St → Hp → Prop), Rel K ea H0 G H σ st → Den K G v d → b d st = some st' →
  (∀ σ', Rel K ea H0 G H σ' st' → σ'.length = σ.length → (∀ k, k ∉ bs → σ'[k]? = σ[k]?) → Q σ' H) → g v σ H Q
section
variable {K : Fr}
theorem gok_name (i : Nat) : GOk K [i] (gName i) (bName i) := fun ea H0 G H v σ st st' d Q r dv e k => by
  cases e
  exact k _ (r.set i dv) (by rw [List.length_set]) fun j hj => List.getElem?_set_ne (by simp at hj; omega)
theorem gok_many : ∀ (is : List Nat) {ea : Addr} {H0 G H : Hp} {vs : List V} {σ : L2.St} {st : Store} {ds : List D} {Q : L2.St → Hp → Prop}, Rel K ea H0 G H σ st → Dens K G vs ds → ds.length = is.length →
    (∀ σ', Rel K ea H0 G H σ' (setAll is ds st) → σ'.length = σ.length → (∀ k, k ∉ is → σ'[k]? = σ[k]?) → Q σ' H) → tgs is vs σ H Q
  | [], ea, H0, G, H, vs, σ, st, ds, Q, r, dv, hl, k => by
    cases dv with
    | nil => exact ⟨rfl, k σ r rfl fun _ _ => rfl⟩
    | cons _ _ => cases hl
  | i :: is, ea, H0, G, H, vs, σ, st, ds, Q, r, dv, hl, k => by
    cases dv with
    | nil => cases hl
    | @cons v us d es h hr =>
      refine ⟨v, us, rfl, ?_⟩
      exact gok_many is (r.set i h) hr (Nat.succ.inj hl) fun σ' r' l' k' => k σ' r' (by rw [l', List.length_set]) fun j hj => by
        simp only [List.mem_cons, not_or] at hj
        rw [k' j hj.2, List.getElem?_set_ne (Ne.symm hj.1)]
theorem gok_tup {n : Nat} {is : List Nat} (hn : is.length = n) : GOk K is (gTup K n (tgs is)) (bTup is) := fun ea H0 G H v σ st st' d Q r dv e k => by
  cases dv with
  | @tup a vs ds ha hd =>
    simp only [bTup] at e
    split at e
    · rename_i hl
      cases e
      exact ⟨a, vs, rfl, ex_t r.s ha, by rw [hd.length, hl, hn], gok_many is r hd hl k⟩
    · cases e
  | _ => cases e
theorem gok_lst {n : Nat} {is : List Nat} (hn : is.length = n) : GOk K is (gUnl K n (tgs is)) (bLst is) := fun ea H0 G H v σ st st' d Q r dv e k => by
  cases dv with
  | @lst a vs ds ha hd =>
    simp only [bLst] at e
    split at e
    · rename_i hl
      cases e
      exact ⟨a, vs, rfl, SqL.of (r.s _ _ ha), by rw [hd.length, hl, hn], gok_many is r hd hl k⟩
    · cases e
  | _ => cases e
end
theorem gpgs_cons {X : Cx} {e : Expr} {es : List Expr} {i : Nat} {is : List Nat} (h1 : PG X e (gName i)) (h2 : PGs X es (tgs is)) (hs : (assignEach (e :: es) X.env).map (·.2) = assign e X.env :: (assignEach es X.env).map (·.2) := by rfl) : PGs X (e :: es) (tgs (i :: is)) := pgs_cons h1 h2 hs
theorem gpgs_nil {X : Cx} : PGs X [] (tgs []) := pgs_nil

/-! ### comprehensions -/
/-- an exception is not let out -/
def R.nr {α : Type} : R α → R α
  | .ok a => .ok a
  | _ => .no
abbrev W0 : WX := fun _ _ _ _ => False
theorem aft_nr {K : Fr} {W W' : WX} {σ σ' : L2.St} {G H : Hp} {α β : Type} {r : R α} {g : α → R β} {k : β → Hp → Hp → Prop} (h : aft K W σ G H (r.nr.bind g) k) : aft K W' σ' G H r fun a G' H' => aft K W σ G' H' (g a) k := by
  cases r with
  | no => exact h
  | rs c => exact h.elim
  | ok a => exact aft_bind (r := .ok a) h
def wipeS (st : Store) : List Nat → Store
  | [] => st
  | v :: vs => (wipeS st vs).set v .un
theorem Rel.wipe {K : Fr} {ea : Addr} {H0 G H : Hp} {σ : L2.St} {st : Store} (r : Rel K ea H0 G H σ st) : ∀ vs : List Nat, Rel K ea H0 G H (wipe σ vs) (wipeS st vs)
  | [] => r
  | v :: vs => (Rel.wipe r vs).forget v none
theorem wipe_get : ∀ (vs : List Nat) (σ : L2.St) (k : Nat), k ∉ vs → (wipe σ vs)[k]? = σ[k]?
  | [], _, _, _ => rfl
  | v :: vs, σ, k, h => by
    simp only [List.mem_cons, not_or] at h
    unfold L2.wipe
    rw [List.getElem?_set_ne (Ne.symm h.1)]
    exact wipe_get vs σ k h.2
theorem wipe_in : ∀ (vs : List Nat) (σ : L2.St) (k : Nat), k ∈ vs → (wipe σ vs)[k]? = if k < σ.length then some none else none
  | v :: vs, σ, k, h => by
    unfold L2.wipe
    by_cases z : v = k
    · subst z
      by_cases hl : v < σ.length
      · rw [List.getElem?_set_self (by rw [wipe_length]; exact hl), if_pos hl]
      · rw [List.getElem?_eq_none (by rw [List.length_set, wipe_length]; omega), if_neg hl]
    · rw [List.getElem?_set_ne z]
      exact wipe_in vs σ k (by
        rcases List.mem_cons.mp h with e | e
        · exact absurd e.symm z
        · exact e)
theorem wipe_same {σ σ' : L2.St} {vs : List Nat} (hl : σ'.length = σ.length) (h : ∀ k, k ∉ vs → σ'[k]? = σ[k]?) : wipe σ' vs = wipe σ vs := by
  apply List.ext_getElem?
  intro k
  by_cases hk : k ∈ vs
  · rw [wipe_in vs σ' k hk, wipe_in vs σ k hk, hl]
  · rw [wipe_get vs σ' k hk, wipe_get vs σ k hk, h k hk]
def compGo (b : D → Store → Option Store) (c : MT) (e : ME) (st : Store) : List D → R (List D)
  | [] => .ok []
  | d :: ds => (R.of (b d st)).bind fun st1 => (c st1).nr.bind fun k => if k = true then (e st1).nr.bind fun y => (compGo b c e st ds).bind fun ys => .ok (y :: ys) else compGo b c e st ds
def eComp (it : MA) (own : List Nat) (b : D → Store → Option Store) (c : MT) (e : ME) : ME := fun st => (it st).bind fun ds => (compGo b c e (wipeS st own) ds).bind fun ys => if ys.length ≤ 100000 then .ok (.lst ys) else .no
def mYes : MT := fun _ => .ok true
section
variable {K : Fr} {ea : Addr} {W : WX}
theorem tE_comp {wi : MA} {g : TG} {b : D → Store → Option Store} {bs vs : List Nat} {c : MT} {e : ME} (hg : GOk K bs g b) (hb : ∀ k, k ∈ bs → k ∈ vs) : ∀ σ H Q, tE K ea W (eComp wi vs b c e) σ H Q → tLc (tI K ea W wi) g (tT K ea W0 c) (tE K ea W0 e) vs σ H Q := fun σ H Q h => by
  obtain ⟨H0, G, st, rl, a⟩ := h
  refine ⟨H0, G, st, rl, aft_mono (aft_bind a) fun ds G1 H1 e1 a1 J wd D hD => ?_⟩
  cases q : compGo b c e (wipeS st vs) ds with
  | no => rw [q] at a1; exact a1.elim
  | rs c' =>
    exfalso
    have no : ∀ ds, compGo b c e (wipeS st vs) ds ≠ .rs c' := by
      intro ds
      induction ds with
      | nil => intro z; cases z
      | cons d ds ih =>
        intro z
        unfold compGo at z
        cases z1 : b d (wipeS st vs) with
        | none => rw [z1] at z; cases z
        | some st1 =>
          rw [z1] at z
          simp only [R.of, R.bind] at z
          cases z2 : c st1 with
          | no => rw [z2] at z; cases z
          | rs c2 => rw [z2] at z; cases z
          | ok k =>
            rw [z2] at z
            simp only [R.nr, R.bind] at z
            split at z
            · cases z3 : e st1 with
              | no => rw [z3] at z; cases z
              | rs c2 => rw [z3] at z; cases z
              | ok y =>
                rw [z3] at z
                simp only [R.nr, R.bind] at z
                cases z4 : compGo b c e (wipeS st vs) ds with
                | no => rw [z4] at z; cases z
                | rs c2 => rw [z4] at z; cases z; exact ih z4
                | ok ys => rw [z4] at z; cases z
            · exact ih z
    exact no ds q
  | ok ys =>
    rw [q] at a1
    have a2 : aft K W σ G1 H1 (if ys.length ≤ 100000 then R.ok (Pg.D.lst ys) else .no) (fun d G' H' => ∀ v, Den K G' v d → Q v H') := a1
    split at a2
    · rename_i hlen
      have fin : ∀ v G' H', Ext G1 H1 G' H' → Den K G' v (.lst ys) → Q v H' := fun v G' H' e dv => a2 G' H' e v dv
      let Pv : Nat → Hp → Prop := fun i H' => ∃ G' acc us rest, Ext G1 H1 G' H' ∧ H' D = some (.lst us) ∧ G' D = none ∧ Dens K G' us acc ∧ compGo b c e (wipeS st vs) (ds.drop i) = .ok rest ∧ ys = acc ++ rest
      refine ⟨fun i m H' => m = ds.length - i ∧ i ≤ ds.length ∧ Pv i H', ⟨ds.length, by simp, Nat.zero_le _, G1, [], [], ys, Ext.newH e1.s hD, upd_same, e1.s.back hD, .nil, q, rfl⟩, ?_⟩
      rintro i m H' ⟨rfl, hi, G', acc, us, rest, x1, x2, x3, x4, x5, x6⟩
      by_cases hlt : i < ds.length
      · refine .inr ⟨wd.goes i H' hlt (x1.g.trans x1.s), Pv (i + 1), fun H'' p => ⟨ds.length - (i + 1), by omega, rfl, hlt, p⟩, fun x H2 hy => ?_⟩
        obtain ⟨G2, d, y1, y2, y3⟩ := wd.yields i G' H' x H2 hlt x1.g x1.s hy
        have hdrop : ds.drop i = d :: ds.drop (i + 1) := by
          rw [List.drop_eq_getElem_cons hlt]
          have : ds[i] = d := by rw [List.getElem?_eq_getElem hlt] at y1; exact Option.some.inj y1
          rw [this]
        rw [hdrop] at x5
        unfold compGo at x5
        cases z1 : b d (wipeS st vs) with
        | none => rw [z1] at x5; cases x5
        | some st1 =>
          rw [z1] at x5
          simp only [R.of, R.bind] at x5
          have rl2 : Rel K ea H0 G2 H2 (wipe σ vs) (wipeS st vs) := ((rl.ext e1).ext (x1.trans y2)).wipe vs
          have nD : ∀ {G3 H3 : Hp}, Ext G' H' G3 H3 → G3 D = none := fun {G3 H3} ex => by
            cases z : G3 D with
            | none => rfl
            | some o => have := ex.n D o z x3; rw [x2] at this; cases this
          refine hg ea H0 G2 H2 x (wipe σ vs) (wipeS st vs) st1 d _ rl2 y3 z1 fun σ2 rl3 l3 k3 => ⟨?_, ?_⟩
          · rw [wipe_same l3 fun k hk => k3 k fun z => hk (hb k z)]
            exact wipe_same (wipe_length σ vs) fun k hk => wipe_get vs σ k hk
          · refine ⟨H0, G2, st1, rl3, ?_⟩
            cases z2 : c st1 with
            | no => rw [z2] at x5; cases x5
            | rs c2 => rw [z2] at x5; cases x5
            | ok k =>
              rw [z2] at x5
              simp only [R.nr, R.bind] at x5
              intro G3 H3 e3
              cases k with
              | true =>
                rw [if_pos rfl] at x5 ⊢
                refine ⟨H0, G3, st1, rl3.ext e3, ?_⟩
                cases z3 : e st1 with
                | no => rw [z3] at x5; cases x5
                | rs c2 => rw [z3] at x5; cases x5
                | ok y =>
                  rw [z3] at x5
                  simp only [R.nr, R.bind] at x5
                  intro G4 H4 e4 yv dy
                  have ex : Ext G' H' G4 H4 := (y2.trans e3).trans e4
                  cases z4 : compGo b c e (wipeS st vs) (ds.drop (i + 1)) with
                  | no => rw [z4] at x5; cases x5
                  | rs c2 => rw [z4] at x5; cases x5
                  | ok rest' =>
                    rw [z4] at x5
                    cases x5
                    have hl2 : us.length < 100000 := by
                      have := x4.length
                      rw [x6, List.length_append, List.length_cons] at hlen
                      omega
                    have n4 := nD ex
                    have ex2 := x1.trans ex
                    refine ⟨us, ex.h _ _ x2, szl' hl2, G4, acc ++ [y], us ++ [yv], rest', ⟨ex2.g, fun a o z => ?_, fun a o z => ?_, ex2.n⟩, upd_same, n4, (x4.mono ex.g).append (.cons dy .nil), z4, by rw [x6]; simp⟩
                    · rw [upd_ne (ne_of_none z hD)]
                      exact ex2.h a o z
                    · rw [upd_ne (ne_of_none z n4)]
                      exact ex2.s a o z
              | false =>
                rw [if_neg Bool.false_ne_true] at x5 ⊢
                have ex : Ext G' H' G3 H3 := y2.trans e3
                exact ⟨G3, acc, us, rest, x1.trans ex, ex.h _ _ x2, nD ex, x4.mono ex.g, x5, x6⟩
      · have e : i = ds.length := by omega
        subst e
        rw [List.drop_length] at x5
        cases x5
        rw [List.append_nil] at x6
        subst x6
        refine .inl ⟨wd.stops H' (x1.g.trans x1.s), fin _ (upd G' D (.lst us)) H' ⟨x1.g.trans (Ex.new x3), x1.h, fun a o z => ?_, fun a o z n => ?_⟩ (.lst upd_same (x4.mono (Ex.new x3)))⟩
        · by_cases hx : a = D
          · subst hx
            rw [upd_same] at z
            cases z
            exact x2
          · rw [upd_ne hx] at z
            exact x1.s a o z
        · by_cases hx : a = D
          · subst hx
            exact hD
          · rw [upd_ne hx] at z
            exact x1.n a o z n
    · exact a2.elim
end
section
variable {X : Cx} {ea : Addr} {W : WX} {elt tg iter : Expr} {ifs : List Expr} {scope : Scope} {own : List (Str × Nat)} {pos spos : Pos} {wi : MA} {g : TG} {b : D → Store → Option Store} {bs : List Nat} {c : MT} {e : ME}
theorem gp_nil {X : Cx} : PTs X [] (tT X.K ea W mYes) := ⟨fun pins s σ H Q I h => pts_nil.run pins s σ H Q I (by
  obtain ⟨H0, G, st, rl, a⟩ := h
  exact a G H (Ext.refl rl.s))⟩
theorem gp_one {X : Cx} {t : Expr} (h : PT X t (tT X.K ea W c)) : PTs X [t] (tT X.K ea W c) := pts_one h
theorem g_comp {ow : List Nat} (hw : own.map (·.2) = ow) (hc : X.calm = true) (hN : X.N.Nodup) (hi : PI X tg iter (tI X.K ea W wi)) (ok : BlkOk X.N X.env.scope scope own) (hk : GOk X.K bs g b)
    (hg : ∀ (s : Shared) (H : Hp) (C : Addr) (cl : List (Str × Addr)) (fp : List Addr), PG (X.blk s H scope (compEnvC scope cl C X.env) fp) tg g) (ht : ∀ (s : Shared) (H : Hp) (C : Addr) (cl : List (Str × Addr)) (fp : List Addr), PTs (X.blk s H scope (compEnvC scope cl C X.env) fp) ifs (tT X.K ea W0 c))
    (he : ∀ (s : Shared) (H : Hp) (C : Addr) (cl : List (Str × Addr)) (fp : List Addr), PE (X.blk s H scope (compEnvC scope cl C X.env) fp) elt (tE X.K ea W0 e)) (hb : ∀ k, k ∈ bs → k ∈ ow := by decide) (hs : ∀ x, foldedSetIterable iter X.env x = pure x := by intro _; rfl) :
    PE X (.ListComp elt [⟨tg, iter, ifs, 0⟩] scope pos) (tE X.K ea W (eComp wi ow b c e)) := by
  subst hw
  exact (pe_lc hc hN hi ok hg ht he hs).weak (tE_comp hk hb)
end
end Pg

namespace Pg
open PySem PySem.Spec PyProof.Rows L2
inductive RS where
  | nx (st : Store)
  | rt (d : D)
  | bk (st : Store)
  | ct (st : Store)
  | rs (c : PySem.Str) (st : Store)
  | no
abbrev MS := Store → RS
/-- what is asked behind a statement's result; G0, H0: the frozen heap and the heap at the start -/
def aftS (K : Fr) (ea : Addr) (W : WX) (G0 H0 : Hp) (D : Ends) (r : RS) : Prop := match r with
  | .nx st => ∀ G H σ, Ext G0 H0 G H → Rel K ea H0 G H σ st → D.nx σ H
  | .bk st => ∀ G H σ, Ext G0 H0 G H → Rel K ea H0 G H σ st → D.bk σ H
  | .ct st => ∀ G H σ, Ext G0 H0 G H → Rel K ea H0 G H σ st → D.ct σ H
  | .rt d => ∀ v G H, Ext G0 H0 G H → Den K G v d → D.rt v H
  | .rs c st => ∀ G H σ, Ext G0 H0 G H → Rel K ea H0 G H σ st → W (.ref (He.ga K c)) none σ H
  | .no => False
def tS (K : Fr) (ea : Addr) (W : WX) (m : MS) : TS := fun D σ H => ∃ G0 H0 G st, Ext G0 H0 G H ∧ Rel K ea H0 G H σ st ∧ aftS K ea W G0 H0 D (m st)
/-- an expression's result, then a statement's -/
def R.thn {α : Type} (st : Store) : R α → (α → RS) → RS
  | .ok a, g => g a
  | .rs c, _ => .rs c st
  | .no, _ => .no
theorem aftS_thn {K : Fr} {ea : Addr} {W : WX} {G0 H0 G H : Hp} {D : Ends} {σ : L2.St} {st : Store} {α : Type} {r : R α} {g : α → RS} (x : Ext G0 H0 G H) (rl : Rel K ea H0 G H σ st) (h : aftS K ea W G0 H0 D (r.thn st g)) : aft K W σ G H r fun a _ _ => aftS K ea W G0 H0 D (g a) := by
  cases r with
  | no => exact h
  | rs c => exact fun G' H' e => h G' H' σ (x.trans e) (rl.ext e)
  | ok a => exact fun _ _ _ => h
/-- read with its own lists as data -/
theorem aftS_thaw {K : Fr} {ea : Addr} {W : WX} {G0 H0 G H : Hp} {D : Ends} {σ : L2.St} {st : Store} {α : Type} {r : R α} {g : α → RS} (x : Ext G0 H0 G H) (rl : Rel K ea H0 G H σ st) (h : aftS K ea W G0 H0 D (r.thn st g)) {G' : Hp} : aft K W σ G' H r fun a _ _ => aftS K ea W G0 H0 D (g a) := by
  cases r with
  | no => exact h
  | rs c => exact fun G2 H2 e => h G H2 σ (x.trans (Ext.top rl.s e.h)) (rl.ext (Ext.top rl.s e.h))
  | ok a => exact fun _ _ _ => h
def mNx : MS := fun st => .nx st
def mSeq (a b : MS) : MS := fun st => match a st with
  | .nx st => b st
  | r => r
def mRet (f : ME) : MS := fun st => (f (thaw st)).thn st fun d => .rt d
def mDrop (f : ME) : MS := fun st => (f (thaw st)).thn st fun _ => .nx st
def mIf (t : MT) (a b : MS) : MS := fun st => (t (thaw st)).thn st fun k => if k = true then a st else b st
def mSet (i : Nat) (f : ME) : MS := fun st => (f st).thn st fun d => .nx (st.set i (.dat d))
/-- x = e, e a number, a text, True, False or None, read of lists of one's own too -/
def mSetF (i : Nat) (f : ME) : MS := fun st => (f (thaw st)).thn st fun d => if flatD d = true then .nx (st.set i (.dat d)) else .no
def mAsg (b : D → Store → Option Store) (f : ME) : MS := fun st => (f st).thn st fun d => match b d st with
  | some st' => .nx st'
  | none => .no
def mOwn (i : Nat) (a : MA) : MS := fun st => (a st).thn st fun ds => if ds.length ≤ 100000 then .nx (st.set i (.own ds)) else .no
def appTo (i : Nat) (d : D) (st : Store) : RS := match st[i]? with
  | some (.own xs) => if xs.length < 100000 then .nx (st.set i (.own (xs ++ [d]))) else .no
  | _ => .no
def ifOwn (i : Nat) (st : Store) (r : RS) : RS := match st[i]? with
  | some (.own _) => r
  | _ => .no
def mApp (i : Nat) (f : ME) : MS := fun st => ifOwn i st ((f st).thn st fun d => appTo i d st)
def mAppF (i : Nat) (f : ME) : MS := fun st => ifOwn i st ((f (thaw st)).thn st fun d => if flatD d = true then appTo i d st else .no)
def mFrz (i : Nat) (m : MS) : MS := fun st => m (frz i st)
def mLoop (b : D → Store → Option Store) (body : MS) : List D → MS
  | [], st => .nx st
  | d :: ds, st => match b d st with
    | none => .no
    | some st1 => match body st1 with
      | .nx st2 => mLoop b body ds st2
      | .ct st2 => mLoop b body ds st2
      | .bk st2 => .nx st2
      | r => r
def mFor (it : MA) (b : D → Store → Option Store) (body : MS) : MS := fun st => (it st).thn st fun ds => mLoop b body ds st
def mWhile (t : MT) (body : MS) : Nat → MS
  | 0, _ => .no
  | n + 1, st => (t (thaw st)).thn st fun k => if k = true then (match body st with
      | .nx st2 => mWhile t body n st2
      | .ct st2 => mWhile t body n st2
      | .bk st2 => .nx st2
      | r => r) else .nx st
def mRaise (c : PySem.Str) : MS := fun st => .rs c st
section
variable {X : Cx} {K : Fr} {ea : Addr} {W : WX} {s : Stmt} {ss : List Stmt} {a b : MS} {f : ME} {t : MT} {e : Expr} {pos : Pos}
theorem ext_den_flat {G G' : Hp} {v : V} {d : D} (h : flatD d = true) (dv : Den K G v d) : Den K G' v d := by
  cases dv with
  | non => exact .non
  | bl b => exact .bl b
  | int b => exact .int b
  | str b => exact .str b
  | _ => cases h
theorem gs_nil : PSs X [] (tS X.K ea W mNx) := pss_nil.weak fun D σ H h => by
  obtain ⟨G0, H0, G, st, x, rl, k⟩ := h
  exact k G H σ x rl
theorem tS_seq : ∀ D σ H, tS K ea W (mSeq a b) D σ H → tSeq (tS K ea W a) (tS K ea W b) D σ H := fun D σ H h => by
  obtain ⟨G0, H0, G, st, x, rl, k⟩ := h
  refine ⟨G0, H0, G, st, x, rl, ?_⟩
  unfold mSeq at k
  cases q : a st with
  | nx st' =>
    rw [q] at k
    exact fun G' H' σ' x' rl' => ⟨G0, H0, G', st', x', rl', k⟩
  | _ => rw [q] at k; exact k
theorem gs_cons (h1 : PS X s (tS X.K ea W a)) (h2 : PSs X ss (tS X.K ea W b)) : PSs X (s :: ss) (tS X.K ea W (mSeq a b)) := (pss_cons h1 h2).weak tS_seq
theorem gs_one (h1 : PS X s (tS X.K ea W a)) : PSs X [s] (tS X.K ea W a) := pss_one h1
theorem gs_ret (he : PE X e (tE X.K ea W f)) : PS X (.Return (some e) pos) (tS X.K ea W (mRet f)) := (ps_ret he).weak fun D σ H h => by
  obtain ⟨G0, H0, G, st, x, rl, k⟩ := h
  obtain ⟨G', x', _, rl'⟩ := rl.thaw x
  refine ⟨H0, G', thaw st, rl', aft_mono (aftS_thaw x rl k) fun d G1 H1 e1 k1 v dv => ?_⟩
  exact k1 v G1 H1 (x'.trans e1) dv
theorem gs_drop (he : PE X e (tE X.K ea W f)) (hs : swapsWith e none pos.line X.env = pure false := by rfl) : PS X (.Expr e pos) (tS X.K ea W (mDrop f)) := (ps_expr he hs).weak fun D σ H h => by
  obtain ⟨G0, H0, G, st, x, rl, k⟩ := h
  obtain ⟨G', x', _, rl'⟩ := rl.thaw x
  refine ⟨H0, G', thaw st, rl', aft_mono (aftS_thaw x rl k) fun d G1 H1 e1 k1 v dv => ?_⟩
  exact k1 G H1 σ (x.trans (Ext.top rl.s e1.h)) (rl.ext (Ext.top rl.s e1.h))
theorem gs_if {c : Expr} {sa sb : List Stmt} (hc : PT X c (tT X.K ea W t)) (ha : PSs X sa (tS X.K ea W a)) (hb : PSs X sb (tS X.K ea W b)) : PS X (.If c sa sb pos) (tS X.K ea W (mIf t a b)) := (ps_if hc ha hb).weak fun D σ H h => by
  obtain ⟨G0, H0, G, st, x, rl, k⟩ := h
  obtain ⟨G', x', _, rl'⟩ := rl.thaw x
  refine ⟨H0, G', thaw st, rl', aft_mono (aftS_thaw x rl k) fun b G1 H1 e1 k1 => ?_⟩
  have x2 := x.trans (Ext.top rl.s e1.h)
  have r2 := rl.ext (Ext.top rl.s e1.h)
  cases b with
  | true => exact ⟨G0, H0, G, st, x2, r2, k1⟩
  | false => exact ⟨G0, H0, G, st, x2, r2, k1⟩
theorem gs_set {i : Nat} {x : Str} {pos' : Pos} (hN : X.N.Nodup) (hi : X.N[i]? = some x) (hx : Loc X.env.scope x) (he : PE X e (tE X.K ea W f)) (hs : swapsWith e (some (.Name x pos')) pos.line X.env = pure false := by rfl)
    (hf : X.fn x = true ∨ X.env.scope.names.lookup x = some .local := by first | exact .inl rfl | exact .inr rfl | assumption) : PS X (.Assign [.Name x pos'] e pos) (tS X.K ea W (mSet i f)) := (ps_set hN hi hx he hs hf).weak fun D σ H h => by
  obtain ⟨G0, H0, G, st, x, rl, k⟩ := h
  refine ⟨H0, G, st, rl, aft_mono (aftS_thn x rl k) fun d G1 H1 e1 k1 v dv => ?_⟩
  exact k1 G1 H1 _ (x.trans e1) ((rl.ext e1).set i dv)
theorem gs_setF {i : Nat} {x : Str} {pos' : Pos} (hN : X.N.Nodup) (hi : X.N[i]? = some x) (hx : Loc X.env.scope x) (he : PE X e (tE X.K ea W f)) (hs : swapsWith e (some (.Name x pos')) pos.line X.env = pure false := by rfl)
    (hf : X.fn x = true ∨ X.env.scope.names.lookup x = some .local := by first | exact .inl rfl | exact .inr rfl | assumption) : PS X (.Assign [.Name x pos'] e pos) (tS X.K ea W (mSetF i f)) := (ps_set hN hi hx he hs hf).weak fun D σ H h => by
  obtain ⟨G0, H0, G, st, x, rl, k⟩ := h
  obtain ⟨G', x', _, rl'⟩ := rl.thaw x
  refine ⟨H0, G', thaw st, rl', aft_mono (aftS_thaw x rl k) fun d G1 H1 e1 k1 v dv => ?_⟩
  split at k1
  · rename_i hfl
    exact k1 G H1 _ (x.trans (Ext.top rl.s e1.h)) ((rl.ext (Ext.top rl.s e1.h)).set i (ext_den_flat hfl dv))
  · exact k1.elim
theorem gs_setLc {i : Nat} {y : Str} {py : Pos} {elt tg iter : Expr} {ifs : List Expr} {scope : Scope} {own : List (Str × Nat)} {lpos spos : Pos} {wi : MA} {g : TG} {bd : D → Store → Option Store} {bs : List Nat} {c : MT} {f : ME}
    {ow : List Nat} (hw : own.map (·.2) = ow) (hc : X.calm = true) (hN : X.N.Nodup) (hy : X.N[i]? = some y) (hyl : X.env.scope.names.lookup y = some .local) (hsw : swapsWith (.ListComp elt [⟨tg, iter, ifs, 0⟩] scope lpos) (some (.Name y py)) spos.line X.env = pure true)
    (hi : PI X tg iter (tI X.K ea W wi)) (ok : BlkOk X.N X.env.scope scope own) (hk : GOk X.K bs g bd)
    (hg : ∀ (s : Shared) (H : Hp) (C : Addr) (cl : List (Str × Addr)) (fp : List Addr), PG (X.blk s H scope (compEnvC scope cl C X.env) fp) tg g) (ht : ∀ (s : Shared) (H : Hp) (C : Addr) (cl : List (Str × Addr)) (fp : List Addr), PTs (X.blk s H scope (compEnvC scope cl C X.env) fp) ifs (tT X.K ea W0 c))
    (he : ∀ (s : Shared) (H : Hp) (C : Addr) (cl : List (Str × Addr)) (fp : List Addr), PE (X.blk s H scope (compEnvC scope cl C X.env) fp) elt (tE X.K ea W0 f)) (hb : ∀ k, k ∈ bs → k ∈ ow := by decide) (hs : ∀ x, foldedSetIterable iter X.env x = pure x := by intro _; rfl) :
    PS X (.Assign [.Name y py] (.ListComp elt [⟨tg, iter, ifs, 0⟩] scope lpos) spos) (tS X.K ea W (mSet i (eComp wi ow bd c f))) := by
  subst hw
  refine (ps_setLc hc hN hy hyl hsw hi ok hg ht he hs).weak fun D σ H h => ?_
  obtain ⟨G0, H0, G, st, x, rl, k⟩ := h
  refine tE_comp hk hb σ H _ ⟨H0, G, st, rl, aft_mono (aftS_thn x rl k) fun d G1 H1 e1 k1 v dv => ?_⟩
  exact k1 G1 H1 _ (x.trans e1) ((rl.ext e1).set i dv)
theorem gs_asg {tg : Expr} {g : TG} {bd : D → Store → Option Store} {bs : List Nat} (he : PE X e (tE X.K ea W f)) (hg : PG X tg g) (hk : GOk X.K bs g bd) (hs : swapsWithSole [tg] e pos.line X.env = pure false := by rfl) (hw : swappedStores [tg] e X.env = pure none := by rfl) (h1 : (assignEach [tg] X.env).map (·.2) = [assign tg X.env] := by rfl) :
    PS X (.Assign [tg] e pos) (tS X.K ea W (mAsg bd f)) := (ps_asg he hg hs hw h1).weak fun D σ H h => by
  obtain ⟨G0, H0, G, st, x, rl, k⟩ := h
  refine ⟨H0, G, st, rl, aft_mono (aftS_thn x rl k) fun d G1 H1 e1 k1 v dv => ?_⟩
  cases q : bd d st with
  | none => rw [q] at k1; exact k1.elim
  | some st' =>
    rw [q] at k1
    exact hk ea H0 G1 H1 v σ st st' d _ (rl.ext e1) dv q fun σ' r' _ _ => k1 G1 H1 σ' (x.trans e1) r'
theorem gs_own {i : Nat} {x : Str} {pos' lpos : Pos} {es : List Expr} {ar : MA} (hN : X.N.Nodup) (hi : X.N[i]? = some x) (hx : Loc X.env.scope x) (ha : PA X es (tA X.K ea W ar)) (hs : swapsWith (.List es lpos) (some (.Name x pos')) pos.line X.env = pure false := by rfl)
    (hf : X.fn x = true ∨ X.env.scope.names.lookup x = some .local := by first | exact .inl rfl | exact .inr rfl | assumption) : PS X (.Assign [.Name x pos'] (.List es lpos) pos) (tS X.K ea W (mOwn i ar)) := (ps_set hN hi hx (pe_lst ha) hs hf).weak fun D σ H h => by
  obtain ⟨G0, H0, G, st, x, rl, k⟩ := h
  refine ⟨H0, G, st, rl, aft_mono (aftS_thn x rl k) fun ds G1 H1 e1 k1 vs dvs => ?_⟩
  split at k1
  · rename_i hl
    refine ⟨szl (by rw [dvs.length]; exact hl), fun p hp => ?_⟩
    have x1 := x.trans e1
    have h0 := x1.h.back hp
    exact k1 G1 _ _ (x1.trans (Ext.newH e1.s hp)) ((rl.ext e1).setOwn i hp h0 dvs)
  · exact k1.elim
/-- xs.append(e) -/
theorem tS_app {i : Nat} {d : D} {D : Ends} {G0 H0 G H : Hp} {σ : L2.St} {st : Store} {l : Addr} {v : V} (x : Ext G0 H0 G H) (rl : Rel K ea H0 G H σ st) (dv : Den K G v d) (p : σ[i]? = some (some (.ref l))) (k : aftS K ea W G0 H0 D (appTo i d st)) :
    rAppend (.ref l) [v] H fun _ H1 => D.nx σ H1 := by
  unfold appTo at k
  cases q : st[i]? with
  | none => rw [q] at k; exact k.elim
  | some s =>
    rw [q] at k
    cases s with
    | own xs =>
      simp only at k
      split at k
      · rename_i hl
        obtain ⟨l', us, a1, b1, c1, d1, e1⟩ := rl.ownL q
        rw [p] at a1
        cases a1
        refine ⟨l, us, v, rfl, rfl, b1, szl' (by rw [c1.length]; exact hl), k G _ σ ⟨x.g, fun a o z => ?_, fun a o z => ?_, x.n⟩ (rl.mut q p (c1.append (.cons dv .nil)))⟩
        · rw [upd_ne (ne_of_none z e1)]
          exact x.h a o z
        · rw [upd_ne (ne_of_none z d1)]
          exact x.s a o z
      · exact k.elim
    | _ => exact k.elim
theorem if_own {D : Ends} {G0 H0 G H : Hp} {σ : L2.St} {st : Store} {i : Nat} {r : RS} (rl : Rel K ea H0 G H σ st) (k : aftS K ea W G0 H0 D (ifOwn i st r)) : (∃ l vs, σ[i]? = some (some (.ref l)) ∧ H l = some (.lst vs)) ∧ aftS K ea W G0 H0 D r := by
  unfold ifOwn at k
  cases q : st[i]? with
  | none => rw [q] at k; exact k.elim
  | some s =>
    rw [q] at k
    cases s with
    | own xs =>
      obtain ⟨l, vs, a, b, _⟩ := rl.ownL q
      exact ⟨⟨l, vs, a, b⟩, k⟩
    | _ => exact k.elim
theorem gs_app {i : Nat} {x : Str} {p p2 p3 : Pos} (hN : X.N[i]? = some x) (hv : Vis X.env.scope x) (he : PE X e (tE X.K ea W f)) (hd : (x == ("__debug__" : Str)) = false := by decide) (hcd : (x == ("__classdict__" : Str)) = false := by decide)
    (hbase : attributeBase (.Name x p) "append" X.env (eval (.Name x p) X.env) = eval (.Name x p) X.env := by rfl)
    (hfew : ((backTo p3 (starEach [e] X.env)).all (fun x => !x.1) && (backToKw p3 (keywordEach [] X.env)).all (fun x => x.1.isSome) && decide ([e].length + ([] : List Keyword).length + (if ([] : List Keyword).isEmpty then 0 else 1) < 30)) = true := by rfl)
    (hline : (p2.endLine == p3.line) = true := by rfl) (h1 : starEach [e] X.env = (false, eval e X.env) :: starEach [] X.env := by rfl) (hplain : (backTo p3 (starEach [] X.env)).any (·.1) = false := by rfl) (hs : swapsWith (.Call (.Attribute (.Name x p) "append" p2) [e] [] p3) none pos.line X.env = pure false := by rfl) :
    PS X (.Expr (.Call (.Attribute (.Name x p) "append" p2) [e] [] p3) pos) (tS X.K ea W (mApp i f)) :=
  (ps_expr (pe_bm PySem.F.plainAttrs_list PySem.F.slot_list_append PySem.F.type_list_append mt_append (pe_var hN hv hd hcd) (pa_cons he pa_nil h1) hbase hfew hline h1 hplain) hs).weak fun D σ H h => by
    obtain ⟨G0, H0, G, st, x, rl, k⟩ := h
    obtain ⟨⟨l, vs, p, hl⟩, k⟩ := if_own rl k
    refine ⟨.ref l, p, .inl ⟨rfl, vs, SqL.of hl⟩, H0, G, st, rl, aft_mono (aftS_thn x rl k) fun d G1 H1 e1 k1 v dv => ?_⟩
    exact tS_app (x.trans e1) (rl.ext e1) dv p k1
theorem gs_appF {i : Nat} {x : Str} {p p2 p3 : Pos} (hN : X.N[i]? = some x) (hv : Vis X.env.scope x) (he : PE X e (tE X.K ea W f)) (hd : (x == ("__debug__" : Str)) = false := by decide) (hcd : (x == ("__classdict__" : Str)) = false := by decide)
    (hbase : attributeBase (.Name x p) "append" X.env (eval (.Name x p) X.env) = eval (.Name x p) X.env := by rfl)
    (hfew : ((backTo p3 (starEach [e] X.env)).all (fun x => !x.1) && (backToKw p3 (keywordEach [] X.env)).all (fun x => x.1.isSome) && decide ([e].length + ([] : List Keyword).length + (if ([] : List Keyword).isEmpty then 0 else 1) < 30)) = true := by rfl)
    (hline : (p2.endLine == p3.line) = true := by rfl) (h1 : starEach [e] X.env = (false, eval e X.env) :: starEach [] X.env := by rfl) (hplain : (backTo p3 (starEach [] X.env)).any (·.1) = false := by rfl) (hs : swapsWith (.Call (.Attribute (.Name x p) "append" p2) [e] [] p3) none pos.line X.env = pure false := by rfl) :
    PS X (.Expr (.Call (.Attribute (.Name x p) "append" p2) [e] [] p3) pos) (tS X.K ea W (mAppF i f)) :=
  (ps_expr (pe_bm PySem.F.plainAttrs_list PySem.F.slot_list_append PySem.F.type_list_append mt_append (pe_var hN hv hd hcd) (pa_cons he pa_nil h1) hbase hfew hline h1 hplain) hs).weak fun D σ H h => by
    obtain ⟨G0, H0, G, st, x, rl, k⟩ := h
    obtain ⟨⟨l, vs, p, hl⟩, k⟩ := if_own rl k
    obtain ⟨G', x', _, rl'⟩ := rl.thaw x
    refine ⟨.ref l, p, .inl ⟨rfl, vs, SqL.of hl⟩, H0, G', thaw st, rl', aft_mono (aftS_thaw x rl k) fun d G1 H1 e1 k1 v dv => ?_⟩
    split at k1
    · rename_i hfl
      exact tS_app (x.trans (Ext.top rl.s e1.h)) (rl.ext (Ext.top rl.s e1.h)) (ext_den_flat hfl dv) p k1
    · exact k1.elim
theorem gs_frz {i : Nat} {st : Stmt} (h : PS X st (tS X.K ea W a)) : PS X st (tS X.K ea W (mFrz i a)) := h.weak fun D σ H h => by
  obtain ⟨G0, H0, G, st, x, rl, k⟩ := h
  obtain ⟨G', x', rl'⟩ := rl.frz x.h x i
  exact ⟨G0, H0, G', _, x', rl', k⟩
/-! ### loops -/
theorem Ext.rebase {G0 H0 G1 H1 G H : Hp} (a : Ext G0 H0 G1 H1) (g : Ex G1 G) (b : Ext G0 H0 G H) : Ext G1 H0 G H := ⟨g, b.h, b.s, fun x o e n => by
  cases q : G0 x with
  | none => exact b.n x o e q
  | some u => exact absurd (a.g x u q) (by rw [n]; intro z; cases z)⟩
theorem Ext.unbase {G0 H0 G1 H1 G H : Hp} (a : Ext G0 H0 G1 H1) (b : Ext G1 H0 G H) : Ext G0 H0 G H := ⟨a.g.trans b.g, b.h, b.s, fun x o e n => by
  cases q : G1 x with
  | none => exact b.n x o e q
  | some u => exact a.n x u q n⟩
/-- what is asked over an elder base follows over a younger -/
theorem aftS.rebase {D D' : Ends} {G0 H0 G1 H1 : Hp} {r : RS} (a : Ext G0 H0 G1 H1) (h : aftS K ea W G0 H0 D r) (h1 : D'.rt = D.rt) : (∀ st, r ≠ .nx st) → (∀ st, r ≠ .bk st) → (∀ st, r ≠ .ct st) → aftS K ea W G1 H0 D' r := fun n1 n2 n3 => by
  cases r with
  | nx st => exact absurd rfl (n1 st)
  | bk st => exact absurd rfl (n2 st)
  | ct st => exact absurd rfl (n3 st)
  | no => exact h
  | rt d =>
    intro v G H e dv
    rw [h1]
    exact h v G H (a.unbase e) dv
  | rs c st => exact fun G H σ e rl => h G H σ (a.unbase e) rl
theorem tS_for {wi : MA} {g : TG} {bd : D → Store → Option Store} {bs : List Nat} (hg : GOk K bs g bd) : ∀ D σ H, tS K ea W (mFor wi bd a) D σ H → tFor (tI K ea W wi) g (tS K ea W a) D σ H := fun D σ H h => by
  obtain ⟨G0, H0, G, st, x, rl, k⟩ := h
  refine ⟨H0, G, st, rl, aft_mono (aftS_thn x rl k) fun ds G1 H1 e1 k1 J wd => ?_⟩
  have x1 : Ext G0 H0 G1 H1 := x.trans e1
  let Pv : Nat → L2.St → Hp → Prop := fun i σ' H' => ∃ G' st', Ex G1 G' ∧ Ext G0 H0 G' H' ∧ Rel K ea H0 G' H' σ' st' ∧ aftS K ea W G0 H0 D (mLoop bd a (ds.drop i) st')
  refine ⟨fun i m σ' H' => m = ds.length - i ∧ i ≤ ds.length ∧ Pv i σ' H', ⟨ds.length, by simp, Nat.zero_le _, G1, st, Ex.refl _, x1, rl.ext e1, k1⟩, ?_⟩
  rintro i m σ' H' ⟨rfl, hi, G', st', g1, x2, rl2, k2⟩
  by_cases hlt : i < ds.length
  · refine .inr ⟨wd.goes i H' hlt (g1.trans x2.s), Pv (i + 1), fun σ'' H'' p => ⟨ds.length - (i + 1), by omega, rfl, hlt, p⟩, fun v H2 hy => ?_⟩
    obtain ⟨G2, d, y1, y2, y3⟩ := wd.yields i G' H' v H2 hlt g1 x2.s hy
    have hdrop : ds.drop i = d :: ds.drop (i + 1) := by
      rw [List.drop_eq_getElem_cons hlt]
      have : ds[i] = d := by rw [List.getElem?_eq_getElem hlt] at y1; exact Option.some.inj y1
      rw [this]
    rw [hdrop] at k2
    unfold mLoop at k2
    cases z1 : bd d st' with
    | none => rw [z1] at k2; exact k2.elim
    | some st1 =>
      rw [z1] at k2
      simp only at k2
      have x3 : Ext G0 H0 G2 H2 := x2.trans y2
      refine hg ea H0 G2 H2 v σ' st' st1 d _ (rl2.ext y2) y3 z1 fun σ2 rl3 _ _ => ?_
      have g2 : Ex G1 G2 := g1.trans y2.g
      refine ⟨G1, H0, G2, st1, Ext.rebase x1 g2 x3, rl3, ?_⟩
      cases z2 : a st1 with
      | nx st2 =>
        rw [z2] at k2
        exact fun G3 H3 σ3 e3 r3 => ⟨G3, st2, e3.g, x1.unbase e3, r3, k2⟩
      | ct st2 =>
        rw [z2] at k2
        exact fun G3 H3 σ3 e3 r3 => ⟨G3, st2, e3.g, x1.unbase e3, r3, k2⟩
      | bk st2 =>
        rw [z2] at k2
        exact fun G3 H3 σ3 e3 r3 => k2 G3 H3 σ3 (x1.unbase e3) r3
      | rt d2 =>
        rw [z2] at k2
        exact fun v G3 H3 e3 dv => k2 v G3 H3 (x1.unbase e3) dv
      | rs c st2 =>
        rw [z2] at k2
        exact fun G3 H3 σ3 e3 r3 => k2 G3 H3 σ3 (x1.unbase e3) r3
      | no => rw [z2] at k2; exact k2
  · have e : i = ds.length := by omega
    subst e
    rw [List.drop_length] at k2
    exact .inl ⟨wd.stops H' (g1.trans x2.s), k2 G' H' σ' x2 rl2⟩
theorem gs_for {tg iter : Expr} {body : List Stmt} {wi : MA} {g : TG} {bd : D → Store → Option Store} {bs : List Nat} (hp : PassesOwn (model X.prog X.w) X.A X.env X.xe) (hc : X.calm = true) (hi : PI X tg iter (tI X.K ea W wi)) (hgt : PG X tg g) (hk : GOk X.K bs g bd) (hb : PSs X body (tS X.K ea W a))
    (hs : ∀ x, foldedSetIterable iter X.env x = pure x := by intro _; rfl) : PS X (.For tg iter body [] pos) (tS X.K ea W (mFor wi bd a)) := (ps_for hp hc hi hgt hb hs).weak (tS_for hk)
theorem tS_while (n : Nat) : ∀ D σ H, tS K ea W (mWhile t a n) D σ H → tWhile (tT K ea W t) (tS K ea W a) D σ H := fun D σ H h => by
  obtain ⟨G0, H0, G, st, x, rl, k⟩ := h
  refine ⟨fun m σ' H' => ∃ G' st', Ext G0 H0 G' H' ∧ Rel K ea H0 G' H' σ' st' ∧ aftS K ea W G0 H0 D (mWhile t a m st'), ⟨n, G, st, x, rl, k⟩, ?_⟩
  rintro m σ' H' ⟨G', st', x2, rl2, k2⟩
  cases m with
  | zero => exact k2.elim
  | succ m =>
    unfold mWhile at k2
    obtain ⟨G3, x3, _, rl3⟩ := rl2.thaw x2
    refine ⟨H0, G3, thaw st', rl3, aft_mono (aftS_thaw x2 rl2 k2) fun b G1 H1 e1 k1 => ?_⟩
    have x4 := x2.trans (Ext.top rl2.s e1.h)
    have r4 := rl2.ext (Ext.top rl2.s e1.h)
    cases b with
    | true =>
      rw [if_pos rfl] at k1
      show ∃ N : L2.St → Hp → Prop, _
      refine ⟨fun σ'' H'' => ∃ G' st', Ext G0 H0 G' H'' ∧ Rel K ea H0 G' H'' σ'' st' ∧ aftS K ea W G0 H0 D (mWhile t a m st'), fun σ'' H'' p => ⟨m, Nat.lt_succ_self m, p⟩, G0, H0, G', st', x4, r4, ?_⟩
      cases z2 : a st' with
      | nx st2 =>
        rw [z2] at k1
        exact fun G3 H3 σ3 e3 r3 => ⟨G3, st2, e3, r3, k1⟩
      | ct st2 =>
        rw [z2] at k1
        exact fun G3 H3 σ3 e3 r3 => ⟨G3, st2, e3, r3, k1⟩
      | bk st2 =>
        rw [z2] at k1
        exact k1
      | rt d2 =>
        rw [z2] at k1
        exact k1
      | rs c st2 =>
        rw [z2] at k1
        exact k1
      | no => rw [z2] at k1; exact k1
    | false =>
      rw [if_neg Bool.false_ne_true] at k1
      show D.nx σ' H1
      exact k1 G' H1 σ' x4 r4
theorem gs_while {c : Expr} {body : List Stmt} (n : Nat) (hp : PassesOwn (model X.prog X.w) X.A X.env X.xe) (hc : PT X c (tT X.K ea W t)) (hb : PSs X body (tS X.K ea W a)) : PS X (.While c body [] pos) (tS X.K ea W (mWhile t a n)) := (ps_while hp hc hb).weak (tS_while n)
/-! ### exceptions -/
/-- an own exception class over ValueError -/
structure ExcK (K : Fr) (mg : Str → Option Value) (x : Str) : Prop where
  m : mg x = some (.ref (He.ga K x))
  xi : PySem.W.excIn K (He.ga K x) He.veBase "ValueError.__new__" = true
  kp : PySem.W.keepIn K (.ref (He.ga K x)) = true
  sub : PySem.W.subIn K (.ref (He.ga K x)) (.type "BaseException") = some true
  ty : PySem.W.typeIn K (.ref (He.ga K x)) = some (.type "type")
abbrev Exc (X : Cx) (x : Str) : Prop := ExcK X.K X.mg x
theorem gs_raise {x m : Str} {j : Nat} {p p2 p3 : Pos} (ex : Exc X x) (hc : X.calm = true) (tk : Takes X W) (hg : Gl X x := by rfl) (hdb : (x == ("__debug__" : Str)) = false := by decide) :
    PS X (.Raise (some (.Call (.Name x p) [.Constant (.str m) j p2] [] p3)) none pos) (tS X.K ea W (mRaise x)) := (ps_raise hc tk (pmk_own PySem.F.excBase_ValueError ex.xi ex.m ex.kp (raises_own ex.sub ex.ty) hg hdb)).weak fun D σ H h => by
  obtain ⟨G0, H0, G, st, x, rl, k⟩ := h
  exact k G H σ x rl
end
def noExc (st : Store) : Bool := st.all fun s => match s with
  | .exc => false
  | _ => true
theorem noExc_get {st : Store} (h : noExc st = true) (i : Nat) : st[i]? ≠ some .exc := fun z => by
  have := List.all_eq_true.mp h _ (List.mem_of_getElem? z)
  cases this
theorem Rel.ea {K : Fr} {ea ea' : Addr} {H0 G H : Hp} {σ : L2.St} {st : Store} (r : Rel K ea H0 G H σ st) (h : noExc st = true) : Rel K ea' H0 G H σ st := ⟨r.s, r.len, fun i z => absurd z (noExc_get h i), r.dat, r.own, r.sep⟩
/-- try: body; except c as n: suite. sub: which classes the clause names -/
def mTry (i : Nat) (sub : PySem.Str → Option Bool) (body : MS) (suite : PySem.Str → MS) : MS := fun st => match body st with
  | .rs c st1 => (match sub c with
    | some true => if noExc st1 = true then (match suite c (st1.set i .exc) with
      | .nx st2 => if noExc (st2.set i .un) = true then .nx (st2.set i .un) else .no
      | .bk st2 => if noExc (st2.set i .un) = true then .bk (st2.set i .un) else .no
      | .ct st2 => if noExc (st2.set i .un) = true then .ct (st2.set i .un) else .no
      | .rt d => .rt d
      | _ => .no) else .no
    | some false => .rs c st1
    | none => .no)
  | r => r
section
variable {X : Cx} {W : WX} {pos : Pos}
theorem gs_try {x n : Str} {i : Nat} {body suite : List Stmt} {b₀ : Stmt} {np pos' : Pos} {a : MS} {su : PySem.Str → MS} {sub : PySem.Str → Option Bool} (hs : X.stack = X.env :: X.outer) (hf : X.env.frame = some X.env.locals) (hN : X.N.Nodup) (hi : X.N[i]? = some n) (hln : X.env.kindOf n = some .local)
    (hc : X.mg x = some (.ref (He.ga X.K x))) (hsub : ∀ c b, sub c = some b → PySem.W.exmOne X.K (.ref (He.ga X.K c)) (.ref (He.ga X.K x)) = some b) (tk : Takes X W)
    (hb : ∀ (W : WX) (pn : List (Addr × Obj)) (xe : Value → Shared → Prop), Takes (X.tr pn xe) W → PassesOwn (model X.prog X.w) X.A X.env xe → PSs (X.tr pn xe) body (tS X.K 0 W a))
    (hsu : ∀ (c : PySem.Str) (a : Addr) (oe : Obj) (pn : List (Addr × Obj)), sub c = some true → Zc (.ref (He.ga X.K c)) none oe → (∃ vs, oe.data = .fields vs) → PSs (X.suite a ((a, oe) :: pn)) (b₀ :: suite) (tS X.K a W0 (su c)))
    (hg : Gl X x := by rfl) (hdb : (x == ("__debug__" : Str)) = false := by decide) :
    PS X (.Try body [.ExceptHandler (some (.Name x np)) (some n) (b₀ :: suite) pos'] [] [] pos) (tS X.K 0 W (mTry i sub a su)) := by
  refine (ps_try_as (tb := fun W => tS X.K 0 W a) (ts := fun a cls d => fun D σ H => ∃ c, sub c = some true ∧ cls = .ref (He.ga X.K c) ∧ d = none ∧ tS X.K a W0 (su c) D σ H) (Wout := W) hs hf hN hi hln ⟨hg, hdb, .inl hc⟩ tk hb ?_).weak fun D σ H h => ?_
  · intro a oe cls d pn hz hv
    refine ⟨fun pins s σ H D I h => ?_⟩
    obtain ⟨c, hc, rfl, rfl, h⟩ := h
    exact (hsu c a oe pn hc hz hv).run pins s σ H D I h
  · obtain ⟨G0, H0, G, st, x, rl, k⟩ := h
    refine ⟨G0, H0, G, st, x, rl, ?_⟩
    unfold mTry at k
    cases z : a st with
    | rs c st1 =>
      rw [z] at k
      simp only at k
      intro G1 H1 σ1 x1 r1
      cases z2 : sub c with
      | none => rw [z2] at k; exact k.elim
      | some b =>
        rw [z2] at k
        refine ⟨b, hsub c b z2, fun hb e _ => ?_, fun hb => ?_⟩
        · subst hb
          simp only at k
          split at k
          · rename_i hne
            have r2 : Rel X.K e H0 G1 H1 (σ1.set i (some (.ref e))) (st1.set i .exc) := (r1.ea (ea' := e) hne).put i (some (.ref e)) .exc rfl (fun _ => rfl) (fun _ z => by cases z)
            refine ⟨c, z2, rfl, rfl, G0, H0, G1, _, x1, r2, ?_⟩
            cases z3 : su c (st1.set i .exc) with
            | nx st2 =>
              rw [z3] at k
              simp only at k
              split at k
              · rename_i hn2
                exact fun G3 H3 σ3 e3 r3 => k G3 H3 _ e3 ((r3.forget i none).ea hn2)
              · exact k.elim
            | bk st2 =>
              rw [z3] at k
              simp only at k
              split at k
              · rename_i hn2
                exact fun G3 H3 σ3 e3 r3 => k G3 H3 _ e3 ((r3.forget i none).ea hn2)
              · exact k.elim
            | ct st2 =>
              rw [z3] at k
              simp only at k
              split at k
              · rename_i hn2
                exact fun G3 H3 σ3 e3 r3 => k G3 H3 _ e3 ((r3.forget i none).ea hn2)
              · exact k.elim
            | rt d =>
              rw [z3] at k
              exact k
            | rs c2 st2 =>
              rw [z3] at k
              exact k.elim
            | no => rw [z3] at k; exact k.elim
          · exact k.elim
        · subst hb
          simp only at k
          exact k G1 H1 σ1 x1 r1
    | nx st1 => rw [z] at k; exact k
    | bk st1 => rw [z] at k; exact k
    | ct st1 => rw [z] at k; exact k
    | rt d => rw [z] at k; exact k
    | no => rw [z] at k; exact k
end
end Pg

namespace Pg
open PySem PySem.Spec PyProof.Rows L2
/-! ### a def -/
def mkF (n N : Nat) (m : MS) : List D → R D := fun ds => if ds.length = n then (match m (ds.map Slot.dat ++ List.replicate (N - n) .un) with
  | .nx _ => .ok .non
  | .rt d => .ok d
  | .rs c _ => .rs c
  | _ => .no) else .no
theorem rel_start {K : Fr} {ea : Addr} {G H : Hp} {vs : List V} {ds : List D} {N : List Str} (s : Ex G H) (d : Dens K G vs ds) : Rel K ea H G H (start N vs) (ds.map Slot.dat ++ List.replicate (N.length - ds.length) .un) := by
  have hl := d.length
  have noU : ∀ (i : Nat) (a : Slot), (ds.map Slot.dat ++ List.replicate (N.length - ds.length) .un)[i]? = some a → (∃ d, a = .dat d ∧ ds[i]? = some d) ∨ a = .un := fun i a q => by
    by_cases z : i < ds.length
    · rw [List.getElem?_append_left (by simpa using z), List.getElem?_map] at q
      cases q2 : ds[i]? with
      | none => rw [q2] at q; cases q
      | some e => rw [q2] at q; cases q; exact .inl ⟨e, rfl, rfl⟩
    · rw [List.getElem?_append_right (by simpa using z), List.getElem?_replicate] at q
      split at q
      · cases q; exact .inr rfl
      · cases q
  refine ⟨s, ?_, fun i q => ?_, fun i e q => ?_, fun i xs q m => ?_, fun i j xs ys l q m => ?_⟩
  · unfold L2.start
    simp [hl]
  · rcases noU i _ q with ⟨d, z, _⟩ | z <;> cases z
  · rcases noU i _ q with ⟨d', z, q2⟩ | z
    · cases z
      obtain ⟨v, e1, e2⟩ := d.get q2
      refine ⟨v, ?_, e2⟩
      unfold L2.start
      have : i < vs.length := (List.getElem?_eq_some_iff.mp e1).1
      rw [List.getElem?_append_left (by simpa using this), List.getElem?_map, e1]
      rfl
    · cases z
  · rcases noU i _ q with ⟨d, z, _⟩ | z <;> subst z <;> cases m
  · rcases noU i _ q with ⟨d, z, _⟩ | z <;> subst z <;> cases m
section
variable {P : Program} {w : World} {K : Fr} {mg : Str → Option Value} {base : Heap} {x : Str} {params : Arguments} {body : List Stmt} {scope : Scope} {f : Addr} {fd : FuncData}
/-- a def whose body does m -/
theorem def_ok (N ps : List Str) (k n Nn : Nat) (m : MS) (hn : ps.length = n) (hN : N.length = Nn) (F : FunD K x x params body scope [] [] f fd) (S : FnScope N ps scope)
    (hb : ∀ (cdv : Value) (A : Around) (outer : List Env) (s : Shared) (H : Hp) (E : XK), Room k (A.deeper (envOfC x scope s.heap.objs.size f cdv)) → ∀ W, Takes (cxOf (L2.CX P w) P w K mg base N x scope f cdv A outer s H E) W →
      PassesOwn (model P w) (A.deeper (envOfC x scope s.heap.objs.size f cdv)) (envOfC x scope s.heap.objs.size f cdv) (cxOf (L2.CX P w) P w K mg base N x scope f cdv A outer s H E).xe →
      PSs (cxOf (L2.CX P w) P w K mg base N x scope f cdv A outer s H E) body (tS K 0 W m)) :
    FnOk P w K mg base (L2.CX P w) (k + 1) f fd ps (spOf K n (mkF n Nn m)) := by
  subst hn hN
  refine F.ok S (fun vs H Q E h => ?_) fun cdv A outer s H vs Q E hr h => ⟨_, hb cdv A outer s H E hr (fun cls d _ H => E cls d H) (takes_of rfl rfl rfl rfl) (passes_of rfl), ?_⟩
  · obtain ⟨_, _, hl, _⟩ := h
    exact hl
  · obtain ⟨G, ds, hl, sx, dv, k⟩ := h
    have hl2 : ds.length = ps.length := by rw [← dv.length]; exact hl
    refine ⟨G, H, G, _, Ext.refl sx, rel_start (N := N) sx dv, ?_⟩
    unfold mkF at k
    rw [if_pos hl2] at k
    rw [hl2]
    cases z : m (ds.map Slot.dat ++ List.replicate (N.length - ps.length) .un) with
    | nx st => rw [z] at k; exact fun G' H' σ' e r => k _ _ _ e .non
    | rt d => rw [z] at k; exact fun v G' H' e dv => k v G' H' e dv
    | rs c st => rw [z] at k; exact fun G' H' σ' e r => k G' H' e
    | bk st => rw [z] at k; exact k.elim
    | ct st => rw [z] at k; exact k.elim
    | no => rw [z] at k; exact k.elim
theorem defK {ps : List Str} {k n : Nat} {Fm : List D → R D} (F : FunD K x x params body scope [] [] (He.ga K x) fd) (hm : mg x = some (.ref (He.ga K x))) (hn : ps.length = n) (ok : FnOk P w K mg base (L2.CX P w) k (He.ga K x) fd ps (spOf K n Fm))
    (h : ∀ (kV doc pm : Value) (an : Option Addr) (cdv ct : Value) (us : List Value), us.length = ps.length → bindArgs (PySem.W.fnOf x x params body scope .none kV doc pm an cdv ct) ⟨us, []⟩ = pure (ps.zip us)) : DefK P w K mg base x k n Fm := by
  subst hn
  exact ⟨hm, F.kp, fd, ps, ok, F.bindsN h⟩
end
/-! ### in an except suite -/
/-- isinstance(e, C): e the exception that the suite holds, of the class c -/
def eIsE (i : Nat) (b : Bool) : ME := fun st => match st[i]? with
  | some .exc => .ok (.bl b)
  | _ => .no
section
variable {X : Cx} {W : WX}
theorem g_isE {a : Addr} {oe : Obj} {pn : List (Addr × Obj)} {c x y : Str} {i : Nat} {b : Bool} {p p1 p2 pos : Pos} (C : ExcC X.K (He.ga X.K c)) (hz : Zc (.ref (He.ga X.K c)) none oe) (hf : ∃ vs, oe.data = .fields vs) (hk : PySem.W.kitOne X.K (.ref (He.ga X.K c)) (.ref (He.ga X.K y)) = some b)
    (hI : X.mg "isinstance" = none) (hy : X.mg y = some (.ref (He.ga X.K y))) (hN : X.N[i]? = some x) (hv : Vis X.env.scope x) (hg : Gl X "isinstance" := by rfl) (hgy : Gl X y := by rfl) (hd : (x == ("__debug__" : Str)) = false := by decide)
    (hcd : (x == ("__classdict__" : Str)) = false := by decide) (hdy : (y == ("__debug__" : Str)) = false := by decide)
    (h1 : starEach [.Name y p2] X.env = (false, eval (.Name y p2) X.env) :: starEach [] X.env := by rfl) (h2 : starEach [.Name x p1, .Name y p2] X.env = (false, eval (.Name x p1) X.env) :: starEach [.Name y p2] X.env := by rfl) (hpl : (backTo pos (starEach [.Name y p2] X.env)).any (·.1) = false := by rfl) :
    PE (X.suite a ((a, oe) :: pn)) (.Call (.Name "isinstance" p) [.Name x p1, .Name y p2] [] pos) (tE X.K a W (eIsE i b)) :=
  (pe_callB (X := X.suite a ((a, oe) :: pn)) (call_isE C hz hf) hg hI (by decide +kernel) (pa_cons (pe_var (X := X.suite a ((a, oe) :: pn)) hN hv hd hcd) (pa_cons (pe_glob (X := X.suite a ((a, oe) :: pn)) (v := .ref (He.ga X.K y)) hgy hy rfl hdy) pa_nil h1) h2) (by decide) (by decide) h2 hpl).weak fun σ H Q hq => by
    obtain ⟨H0, G, st, rl, k⟩ := hq
    unfold eIsE at k
    cases q : st[i]? with
    | none => rw [q] at k; exact k.elim
    | some s =>
      rw [q] at k
      cases s with
      | exc => exact ⟨.ref a, rl.exc i q, .ref (He.ga X.K y), .ref (He.ga X.K y), b, rfl, fun u r => r, hk, k _ _ (Ext.refl rl.s) _ (.bl b)⟩
      | _ => exact k.elim
/-- xs.index(v), flat items, v there -/
def idxF (x : D) : List D → Option Nat
  | [] => none
  | y :: r => if eqF y x = true then some 0 else (idxF x r).map (· + 1)
def indexD (ys : List D) (x : D) : Option D := if flatD x = true ∧ ys.all flatD = true then (idxF x ys).map fun j => .int (j : Nat) else none
def eIndex (f g : ME) : ME := fun st => (f st).bind fun x => match x with
  | .lst ys => (g st).bind fun y => R.of (indexD ys y)
  | _ => .no
theorem idxF_spec {x : D} : ∀ {ys : List D} {j : Nat}, idxF x ys = some j → (∃ z, ys[j]? = some z ∧ eqF z x = true) ∧ ∀ m z, m < j → ys[m]? = some z → eqF z x = false
  | [], _, h => by cases h
  | y :: r, j, h => by
    unfold idxF at h
    split at h
    · rename_i e
      cases h
      exact ⟨⟨y, rfl, e⟩, fun m z hm => by omega⟩
    · rename_i e
      cases q : idxF x r with
      | none => rw [q] at h; cases h
      | some i =>
        rw [q] at h
        cases h
        obtain ⟨⟨z, h1, h2⟩, h3⟩ := idxF_spec q
        refine ⟨⟨z, by simpa using h1, h2⟩, fun m z' hm hz => ?_⟩
        cases m with
        | zero =>
          cases (Option.some.inj (show some y = some z' from hz))
          simpa using e
        | succ m => exact h3 m z' (Nat.lt_of_succ_lt_succ hm) (by simpa using hz)
variable {ea : Addr} {o e : Expr} {f g : ME} {apos cpos : Pos}
theorem g_index (ho : PE X o (tE X.K ea W f)) (he : PE X e (tE X.K ea W g)) (hbase : attributeBase o "index" X.env (eval o X.env) = eval o X.env := by rfl)
    (hfew : ((backTo cpos (starEach [e] X.env)).all (fun x => !x.1) && (backToKw cpos (keywordEach [] X.env)).all (fun x => x.1.isSome) && decide ([e].length + ([] : List Keyword).length + (if ([] : List Keyword).isEmpty then 0 else 1) < 30)) = true := by rfl)
    (hline : (apos.endLine == cpos.line) = true := by rfl) (h1 : starEach [e] X.env = (false, eval e X.env) :: starEach [] X.env := by rfl) (hplain : (backTo cpos (starEach [] X.env)).any (·.1) = false := by rfl) :
    PE X (.Call (.Attribute o "index" apos) [e] [] cpos) (tE X.K ea W (eIndex f g)) :=
  (pe_bm PySem.F.plainAttrs_list PySem.F.slot_list_index PySem.F.type_list_index mt_index ho (pa_cons he pa_nil h1) hbase hfew hline h1 hplain).weak fun σ H Q hq => by
    obtain ⟨H0, G, st, rl, k⟩ := hq
    refine ⟨H0, G, st, rl, aft_mono (aft_bind k) fun x G1 H1 e1 a1 v dv => ?_⟩
    cases dv with
    | @lst a vs ys ha hd =>
      refine ⟨.inl ⟨rfl, vs, SqL.of (e1.s _ _ ha)⟩, H0, G1, st, rl.ext e1, aft_mono (aft_bind a1) fun y G2 H2 e2 a2 w dw => ?_⟩
      obtain ⟨z, ez, k2⟩ := aft_of a2
      unfold indexD at ez
      split at ez
      · rename_i hfl
        obtain ⟨j, hj, rfl⟩ := Option.map_eq_some_iff.mp ez
        obtain ⟨⟨z, z1, z2⟩, z3⟩ := idxF_spec hj
        have hd2 := hd.mono e2.g
        obtain ⟨u, u1, u2⟩ := hd2.get z1
        have fz : ∀ (m : Nat) (d : D), ys[m]? = some d → flatD d = true := fun m d q => List.all_eq_true.mp hfl.2 d (List.mem_of_getElem? q)
        refine ⟨a, vs, w, j, u, rfl, rfl, SqL.of (e2.s _ _ (e2.g _ _ ha)), flat_den dw hfl.1, flats_den hd hfl.2, u1, by rw [eqF_den u2 dw (fz _ _ z1) hfl.1]; exact z2, fun m z' hm hz' => ?_, k2 _ _ (Ext.refl e2.s) _ (.int _)⟩
        obtain ⟨d, d1, d2⟩ := hd2.getV hz'
        rw [eqF_den d2 dw (fz _ _ d1) hfl.1]
        exact z3 m d hm d1
      · cases ez
    | _ => exact a1.elim
end
/-! ### list(range(a, b)) -/
def rg1D : D → Option D
  | .int n => if 0 ≤ n ∧ n ≤ 100000 then some (.lst (rangeI 0 n.toNat)) else none
  | _ => none
def rg2D : D → D → Option D
  | .int a, .int b => if (-100000 ≤ a ∧ a ≤ 100000) ∧ -100000 ≤ b ∧ b ≤ 100000 then some (.lst (rangeI a (b - a).toNat)) else none
  | _, _ => none
theorem dens_rg {K : Fr} {G : Hp} (a b : Int) : Dens K G (rgV a b) (rangeI a (b - a).toNat) := by
  unfold rgV rangeI
  generalize (b - a).toNat = n
  induction List.range n with
  | nil => exact .nil
  | cons i r ih => exact .cons (.int _) ih
section
variable {X : Cx} {W : WX} {ea : Addr} {e e2 : Expr} {f g : ME} {p p1 p2 pos : Pos}
theorem g_lrg1 (hc : X.calm = true) (hl : X.mg "list" = none) (hr : X.mg "range" = none) (he : PE X e (tE X.K ea W f)) (hg : Gl X "list" := by rfl) (hg2 : Gl X "range" := by rfl) (na : starEach [e] X.env = (false, eval e X.env) :: starEach [] X.env := by rfl)
    (nb : starEach [.Call (.Name "range" p1) [e] [] p2] X.env = (false, eval (.Call (.Name "range" p1) [e] [] p2) X.env) :: starEach [] X.env := by rfl) : PE X (.Call (.Name "list" p) [.Call (.Name "range" p1) [e] [] p2] [] pos) (tE X.K ea W (unr rg1D f)) :=
  (pe_listRg hc hg hl (prg_1 hg2 hr he na) nb).weak fun σ H Q hq => by
    obtain ⟨H0, G, st, rl, a⟩ := hq
    refine ⟨H0, G, st, rl, aft_mono (aft_bind a) fun x G1 H1 e1 a1 v dv => ?_⟩
    obtain ⟨z, ez, k⟩ := aft_of a1
    cases x with
    | int n =>
      simp only [rg1D] at ez
      split at ez
      · rename_i hn
        cases ez
        refine ⟨n, dv.int_inv, RgOk.of_le (by omega) (by omega) (by omega) (by omega), fun q hq => ?_⟩
        have ex := Ext.new (G := G1) (H := H1) (p := q) (o := .lst (rgV 0 n)) e1.s hq
        have d : Dens X.K (upd G1 q (.lst (rgV 0 n))) (rgV 0 n) (rangeI 0 (n - 0).toNat) := dens_rg 0 n
        have e0 : n - 0 = n := by omega
        rw [e0] at d
        exact k _ _ ex _ (.lst upd_same d)
      · cases ez
    | _ => cases ez
theorem g_lrg2 (hc : X.calm = true) (hl : X.mg "list" = none) (hr : X.mg "range" = none) (he : PE X e (tE X.K ea W f)) (he2 : PE X e2 (tE X.K ea W g)) (hg : Gl X "list" := by rfl) (hg2 : Gl X "range" := by rfl) (na : starEach [e, e2] X.env = (false, eval e X.env) :: starEach [e2] X.env := by rfl)
    (na2 : starEach [e2] X.env = (false, eval e2 X.env) :: starEach [] X.env := by rfl) (hpl : (backTo p2 (starEach [e2] X.env)).any (·.1) = false := by rfl)
    (nb : starEach [.Call (.Name "range" p1) [e, e2] [] p2] X.env = (false, eval (.Call (.Name "range" p1) [e, e2] [] p2) X.env) :: starEach [] X.env := by rfl) : PE X (.Call (.Name "list" p) [.Call (.Name "range" p1) [e, e2] [] p2] [] pos) (tE X.K ea W (bin rg2D f g)) :=
  (pe_listRg hc hg hl (prg_2 hg2 hr he he2 na na2 hpl) nb).weak fun σ H Q hq => by
    obtain ⟨H0, G, st, rl, a⟩ := hq
    refine ⟨H0, G, st, rl, aft_mono (aft_bind a) fun x G1 H1 e1 a1 v dv => ?_⟩
    refine ⟨H0, G1, st, rl.ext e1, aft_mono (aft_bind a1) fun y G2 H2 e2 a2 w dw => ?_⟩
    obtain ⟨z, ez, k⟩ := aft_of a2
    cases x with
    | int i =>
      cases y with
      | int j =>
        simp only [rg2D] at ez
        split at ez
        · rename_i hn
          cases ez
          refine ⟨i, j, dv.int_inv, dw.int_inv, ⟨by omega, by omega, by omega, by omega, by omega⟩, fun q hq => ?_⟩
          have ex := Ext.new (G := G2) (H := H2) (p := q) (o := .lst (rgV i j)) e2.s hq
          exact k _ _ ex _ (.lst upd_same (dens_rg i j))
        · cases ez
      | _ => cases ez
    | _ => cases y <;> cases ez
end
end Pg

namespace Pg
open PySem PySem.Spec PyProof.Rows L2
/-! ### the head's facts: the defs, the names, and one answer more -/
abbrev AlM : Type := He.AlD × Bool
def obsM (fa : List He.Fa) (fn : List He.DefD) (ex : Fr → Bool) (K : Fr) : AlM := (He.obsD fa fn K, ex K)
def SaysM (fa : List He.Fa) (fn : List He.DefD) (ex : Fr → Bool) (K : Fr) : Prop := obsM fa fn ex K = (He.valD fn, true)
def obsMG (n : Nat) (fa : List He.Fa) (fn : List He.DefD) (ex : Fr → Bool) (g : Addr → Option Obj) : AlM := obsM fa fn ex (He.frG g (He.asD g n))
def hookM (n : Nat) (fa : List He.Fa) (fn : List He.DefD) (ex : Fr → Bool) : PySem.W.Hook where
  α := AlM
  obs := fun s => obsMG n fa fn ex s.heap.get?
  val := fun _ => (He.valD fn, true)
  says := fun _ h => ∃ K : Fr, K.In h ∧ SaysM fa fn ex K
  of := fun _ _ e => ⟨_, He.frG_in, e⟩
  keeps := fun _ _ _ ⟨K, hK, c⟩ k => ⟨K, PySem.W.Frag.In.keeps hK k, c⟩
theorem obsMG_eq {n : Nat} {fa : List He.Fa} {fn : List He.DefD} {ex : Fr → Bool} {g : Addr → Option Obj} {s : Shared} (h : ∀ a, g a = s.heap.get? a) : obsMG n fa fn ex g = (hookM n fa fn ex).obs s := by
  have e : g = s.heap.get? := funext h
  rw [e] <;> rfl
theorem SaysM.d {fa : List He.Fa} {fn : List He.DefD} {ex : Fr → Bool} {K : Fr} (c : SaysM fa fn ex K) : He.SaysD fa fn K := congrArg (fun z : AlM => z.1) c
theorem SaysM.e {fa : List He.Fa} {fn : List He.DefD} {ex : Fr → Bool} {K : Fr} (c : SaysM fa fn ex K) : ex K = true := congrArg (fun z : AlM => z.2) c
/-- an own exception class, as isinstance asks it -/
def excCB (K : Fr) (x : Str) : Bool :=
  decide (PySem.W.findIn K (.ref (He.ga K x)) "__getattribute__" = some (some (.builtin "BaseException.__getattribute__"))) && (decide (PySem.W.findIn K (.ref (He.ga K x)) "__getattr__" = some none) && (decide (PySem.W.subIn K (.ref (He.ga K x)) (.type "BaseException") = some true) &&
    (PySem.W.hasDictIn K (He.ga K x) && (decide (PySem.W.findIn K (.ref (He.ga K x)) "__class__" = some (some (.builtin "object.__class__"))) && (decide (PySem.W.specialIn K (.builtin "object.__class__") "__get__" = some (some (.builtin "getset_descriptor.__get__"))) &&
      (decide (PySem.W.takesIn K (.builtin "object.__class__") = some true) && decide (PySem.W.mroIn K (He.ga K x) (.type "object") = some true)))))))
theorem excCB_ok {K : Fr} {x : Str} (h : excCB K x = true) : ExcC K (He.ga K x) := by
  obtain ⟨h1, h⟩ := He.ba h
  obtain ⟨h2, h⟩ := He.ba h
  obtain ⟨h3, h⟩ := He.ba h
  obtain ⟨h4, h⟩ := He.ba h
  obtain ⟨h5, h⟩ := He.ba h
  obtain ⟨h6, h⟩ := He.ba h
  obtain ⟨h7, h8⟩ := He.ba h
  exact ⟨of_decide_eq_true h1, of_decide_eq_true h2, of_decide_eq_true h3, h4, of_decide_eq_true h5, of_decide_eq_true h6, of_decide_eq_true h7, of_decide_eq_true h8⟩
/-- what a class is to another -/
def isaB (K : Fr) (x y : Str) (b : Bool) : Bool := decide (PySem.W.kitOne K (.ref (He.ga K x)) (.ref (He.ga K y)) = some b)
def exmB (K : Fr) (x y : Str) (b : Bool) : Bool := decide (PySem.W.exmOne K (.ref (He.ga K x)) (.ref (He.ga K y)) = some b)
theorem isaB_ok {K : Fr} {x y : Str} {b : Bool} (h : isaB K x y b = true) : PySem.W.kitOne K (.ref (He.ga K x)) (.ref (He.ga K y)) = some b := of_decide_eq_true h
theorem exmB_ok {K : Fr} {x y : Str} {b : Bool} (h : exmB K x y b = true) : PySem.W.exmOne K (.ref (He.ga K x)) (.ref (He.ga K y)) = some b := of_decide_eq_true h
/-- the names that stand for built-ins -/
structure BiK (mg : Str → Option Value) : Prop where
  b_len : mg "len" = none
  b_range : mg "range" = none
  b_min : mg "min" = none
  b_max : mg "max" = none
  b_abs : mg "abs" = none
  b_isinstance : mg "isinstance" = none
  b_int : mg "int" = none
  b_bool : mg "bool" = none
  b_str : mg "str" = none
  b_tuple : mg "tuple" = none
  b_list : mg "list" = none
  b_sum : mg "sum" = none
  b_sorted : mg "sorted" = none
  b_any : mg "any" = none
  b_all : mg "all" = none
  b_zip : mg "zip" = none
  b_enumerate : mg "enumerate" = none
  b_set : mg "set" = none
/-! constants of the module -/
section
variable {X : Cx} {ea : Addr} {W : WX} {x : Str} {pos : Pos}
theorem g_glI {i : Int} (hm : ∃ t, X.mg x = some (.int i t)) (hg : Gl X x := by rfl) (hdb : (x == ("__debug__" : Str)) = false := by decide) : PE X (.Name x pos) (tE X.K ea W (eC (.int i))) := by
  obtain ⟨t, hm⟩ := hm
  exact g_glob (v := .int i) hm ⟨t, rfl⟩ (fun _ => .int i) hg hdb
theorem g_glS {i : Str} (hm : ∃ t, X.mg x = some (.str i t)) (hg : Gl X x := by rfl) (hdb : (x == ("__debug__" : Str)) = false := by decide) : PE X (.Name x pos) (tE X.K ea W (eC (.str i))) := by
  obtain ⟨t, hm⟩ := hm
  exact g_glob (v := .str i) hm ⟨t, rfl⟩ (fun _ => .str i) hg hdb
/-- a tuple of texts -/
structure TupK (K : Fr) (mg : Str → Option Value) (x : Str) (xs : List Str) : Prop where
  m : mg x = some (.ref (He.ga K x))
  t : ∀ H : Hp, SqT K H (He.ga K x) (xs.map V.str)
theorem g_glT {xs : List Str} (h : TupK X.K X.mg x xs) (hg : Gl X x := by rfl) (hdb : (x == ("__debug__" : Str)) = false := by decide) : PE X (.Name x pos) (tE X.K ea W (eC (.tup (xs.map D.str)))) :=
  g_glob (v := .ref (He.ga X.K x)) h.m rfl (fun G => .tup (h.t G) (dens_strs xs)) hg hdb
end
/-! ### the end -/
/-- the law's def does F; F is True of every script -/
theorem law_end {K : Fr} {F : List D → R D} (hF : ∀ ns : List Int, ns.length ≤ 63 → F [.scr ns] = .ok (.bl true)) : ∀ (H : Hp) (a : Addr) (ns : List Int), ns.length ≤ 63 → Only H → SqL K H a (ns.map V.int) → spOf K 1 F [.ref a] H (fun v _ => v = .bl true) fun _ _ _ => False := fun H a ns hl _ hS => by
  refine ⟨H, [.scr ns], rfl, Ex.refl H, .cons (.scr hS) .nil, ?_⟩
  rw [hF ns hl]
  exact fun v G' H' _ dv => dv.bl_inv
theorem noCX {P : Program} {w : World} : ∀ (H : Hp) (s : Shared) (e : Value) (s' : Shared), L2.CX P w [] H s (fun _ _ _ => False) e s' → False := fun H s e s' h => by
  obtain ⟨_, _, _, _, _, _, _, _, _, _, _, _, z⟩ := h
  exact z
end Pg

namespace Pg
open PySem PySem.Spec PyProof.Rows L2
theorem bo_len : bootBuiltins "len" = some (.builtin "len") := by decide +kernel
theorem bo_min : bootBuiltins "min" = some (.builtin "min") := by decide +kernel
theorem bo_max : bootBuiltins "max" = some (.builtin "max") := by decide +kernel
theorem bo_abs : bootBuiltins "abs" = some (.builtin "abs") := by decide +kernel
theorem bo_sum : bootBuiltins "sum" = some (.builtin "sum") := by decide +kernel
theorem bo_sorted : bootBuiltins "sorted" = some (.builtin "sorted") := by decide +kernel
theorem bo_any : bootBuiltins "any" = some (.builtin "any") := by decide +kernel
theorem bo_all : bootBuiltins "all" = some (.builtin "all") := by decide +kernel
theorem bo_int : bootBuiltins "int" = some (.type "int") := by decide +kernel
theorem bo_bool : bootBuiltins "bool" = some (.type "bool") := by decide +kernel
theorem bo_str : bootBuiltins "str" = some (.type "str") := by decide +kernel
theorem bo_tuple : bootBuiltins "tuple" = some (.type "tuple") := by decide +kernel
theorem bo_list : bootBuiltins "list" = some (.type "list") := by decide +kernel
/-! ### several targets at once, lists of the def's own among the values -/
abbrev MQ := Store → R (List Slot)
def qNil : MQ := fun _ => .ok []
def qVal (f : ME) (g : MQ) : MQ := fun st => (f st).bind fun d => (g st).bind fun ss => .ok (.dat d :: ss)
def qOwn (a : MA) (g : MQ) : MQ := fun st => (a st).bind fun ds => if ds.length ≤ 100000 then (g st).bind fun ss => .ok (.own ds :: ss) else .no
def setS : List Nat → List Slot → Store → Store
  | i :: is, s :: ss, st => setS is ss (st.set i s)
  | _, _, st => st
def setV : List Nat → List V → L2.St → L2.St
  | i :: is, v :: vs, σ => setV is vs (σ.set i (some v))
  | _, _, σ => σ
def mPar (is : List Nat) (f : MQ) : MS := fun st => (f st).thn st fun ss => if ss.length = is.length ∧ is.all (fun i => decide (i < st.length)) = true then .nx (setS is ss st) else .no
section
variable {K : Fr} {ea : Addr} {W : WX} {H0 G H : Hp}
/-- a store whose slots are taken from another's -/
theorem Rel.pull {σ σ' : L2.St} {st st' : Store} (r : Rel K ea H0 G H σ st) (φ : Nat → Nat) (hl : st'.length = σ'.length) (h : ∀ (j : Nat) (s : Slot), st'[j]? = some s → st[φ j]? = some s ∧ σ'[j]? = σ[φ j]?) (inj : ∀ j k, j < st'.length → k < st'.length → φ j = φ k → j = k) : Rel K ea H0 G H σ' st' where
  s := r.s
  len := hl
  exc := fun i q => by
    obtain ⟨a, b⟩ := h i _ q
    rw [b]
    exact r.exc _ a
  dat := fun i d q => by
    obtain ⟨a, b⟩ := h i _ q
    rw [b]
    exact r.dat _ d a
  own := fun i xs q m => by
    obtain ⟨a, b⟩ := h i _ q
    rw [b]
    exact r.own _ xs a m
  sep := fun i j xs ys l q m q' m' p p' => by
    obtain ⟨a, b⟩ := h i _ q
    obtain ⟨a', b'⟩ := h j _ q'
    rw [b] at p
    rw [b'] at p'
    exact inj i j (List.getElem?_eq_some_iff.mp q).1 (List.getElem?_eq_some_iff.mp q').1 (r.sep _ _ xs ys l a m a' m' p p')
theorem Rel.left {σ τ : L2.St} {st ss : Store} (r : Rel K ea H0 G H (σ ++ τ) (st ++ ss)) (hl : st.length = σ.length) : Rel K ea H0 G H σ st :=
  r.pull id hl (fun j s q => by
    have hj : j < st.length := (List.getElem?_eq_some_iff.mp q).1
    exact ⟨by rw [id, List.getElem?_append_left hj]; exact q, by rw [id, List.getElem?_append_left (by omega)]⟩) fun _ _ _ _ e => e
/-- the first of the values behind goes into a slot -/
theorem Rel.mv {σ τ : L2.St} {st ss : Store} {v : V} {s : Slot} {i : Nat} (r : Rel K ea H0 G H (σ ++ some v :: τ) (st ++ s :: ss)) (hl : st.length = σ.length) (hi : i < st.length) : Rel K ea H0 G H (σ.set i (some v) ++ τ) (st.set i s ++ ss) := by
  have hlen := r.len
  rw [List.length_append, List.length_append, List.length_cons, List.length_cons] at hlen
  refine r.pull (fun j => if j = i then st.length else if j < st.length then j else j + 1) ?_ (fun j s' q => ?_) fun j k _ _ e => ?_
  · simp only [List.length_append, List.length_set]
    omega
  · by_cases z : j = i
    · subst z
      simp only [if_true]
      rw [List.getElem?_append_left (by simpa using hi), List.getElem?_set_self hi] at q
      cases q
      refine ⟨by rw [List.getElem?_append_right (Nat.le_refl _), Nat.sub_self]; rfl, ?_⟩
      rw [List.getElem?_append_left (by rw [List.length_set]; omega), List.getElem?_set_self (by omega), List.getElem?_append_right (by omega), hl, Nat.sub_self]
      rfl
    · simp only [if_neg z]
      by_cases y : j < st.length
      · simp only [if_pos y]
        rw [List.getElem?_append_left (by simpa using y), List.getElem?_set_ne (Ne.symm z)] at q
        refine ⟨by rw [List.getElem?_append_left y]; exact q, ?_⟩
        rw [List.getElem?_append_left (by rw [List.length_set]; omega), List.getElem?_set_ne (Ne.symm z), List.getElem?_append_left (by omega)]
      · simp only [if_neg y]
        rw [List.getElem?_append_right (by rw [List.length_set]; omega), List.length_set] at q
        refine ⟨?_, ?_⟩
        · rw [List.getElem?_append_right (by omega), show j + 1 - st.length = (j - st.length) + 1 by omega, List.getElem?_cons_succ]
          exact q
        · rw [List.getElem?_append_right (by rw [List.length_set]; omega), List.length_set, List.getElem?_append_right (by omega), show j + 1 - σ.length = (j - σ.length) + 1 by omega, List.getElem?_cons_succ]
  · have e2 : (if j = i then st.length else if j < st.length then j else j + 1) = (if k = i then st.length else if k < st.length then k else k + 1) := e
    split at e2 <;> split at e2 <;> (try split at e2) <;> (try split at e2) <;> omega
theorem Rel.mvs : ∀ (is : List Nat) {vs : List V} {ss : List Slot} {σ : L2.St} {st : Store}, Rel K ea H0 G H (σ ++ vs.map some) (st ++ ss) → st.length = σ.length → vs.length = ss.length → ss.length = is.length → is.all (fun i => decide (i < st.length)) = true → Rel K ea H0 G H (setV is vs σ) (setS is ss st)
  | [], vs, ss, σ, st, r, hl, h1, h2, h3 => by
    cases ss with
    | nil =>
      cases vs with
      | nil =>
        show Rel K ea H0 G H σ st
        simpa using r
      | cons _ _ => cases h1
    | cons _ _ => cases h2
  | i :: is, vs, ss, σ, st, r, hl, h1, h2, h3 => by
    cases ss with
    | nil => cases h2
    | cons s ss =>
      cases vs with
      | nil => cases h1
      | cons v vs =>
        rw [List.all_cons, Bool.and_eq_true] at h3
        have hi : i < st.length := of_decide_eq_true h3.1
        exact Rel.mvs is (Rel.mv r hl hi) (by rw [List.length_set, List.length_set]; exact hl) (Nat.succ.inj h1) (Nat.succ.inj h2) (by rw [List.length_set]; exact h3.2)
/-- a value more behind -/
theorem Rel.push {σ : L2.St} {st : Store} {v : V} {d : D} (r : Rel K ea H0 G H σ st) (h : Den K G v d) : Rel K ea H0 G H (σ ++ [some v]) (st ++ [.dat d]) := by
  have r1 : Rel K ea H0 G H (σ ++ [none]) (st ++ [.un]) := by
    refine ⟨r.s, by simp [r.len], fun i q => ?_, fun i e q => ?_, fun i xs q m => ?_, fun i j xs ys l q m q' m' p p' => ?_⟩
    all_goals
      have cs : ∀ {i : Nat} {s : Slot}, (st ++ [.un])[i]? = some s → s ≠ .un → i < st.length ∧ st[i]? = some s ∧ (σ ++ [none])[i]? = σ[i]? := fun {i s} q n => by
        by_cases z : i < st.length
        · rw [List.getElem?_append_left z] at q
          exact ⟨z, q, List.getElem?_append_left (by rw [← r.len]; exact z)⟩
        · rw [List.getElem?_append_right (by omega)] at q
          cases hq : i - st.length with
          | zero => rw [hq] at q; cases q; exact absurd rfl n
          | succ m => rw [hq] at q; simp at q
    · obtain ⟨_, a, b⟩ := cs q (by intro z; cases z)
      rw [b]
      exact r.exc i a
    · obtain ⟨_, a, b⟩ := cs q (by intro z; cases z)
      rw [b]
      exact r.dat i e a
    · obtain ⟨_, a, b⟩ := cs q (by intro z; rw [z] at m; cases m)
      rw [b]
      exact r.own i xs a m
    · obtain ⟨_, a, b⟩ := cs q (by intro z; rw [z] at m; cases m)
      obtain ⟨_, a', b'⟩ := cs q' (by intro z; rw [z] at m'; cases m')
      rw [b] at p
      rw [b'] at p'
      exact r.sep i j xs ys l a m a' m' p p'
  have r2 := r1.set st.length h
  have e1 : (σ ++ [none]).set st.length (some v) = σ ++ [some v] := by rw [r.len, List.set_append_right _ _ (Nat.le_refl _), Nat.sub_self]; rfl
  have e2 : (st ++ [Slot.un]).set st.length (.dat d) = st ++ [.dat d] := by rw [List.set_append_right _ _ (Nat.le_refl _), Nat.sub_self]; rfl
  rw [e1, e2] at r2
  exact r2
theorem Rel.pushOwnG {σ : L2.St} {st : Store} {l : Addr} {o : HO} {a : Slot} (r : Rel K ea H0 G H σ st) (hl : H l = none) (h0 : H0 l = none) (h : Hld K G a o) : Rel K ea H0 G (upd H l o) (σ ++ [some (.ref l)]) (st ++ [a]) := by
  have r1 := (r.push (v := .non) .non).setOwnG st.length (a := a) hl h0 h
  have e1 : (σ ++ [some V.non]).set st.length (some (.ref l)) = σ ++ [some (.ref l)] := by rw [r.len, List.set_append_right _ _ (Nat.le_refl _), Nat.sub_self]; rfl
  have e2 : (st ++ [Slot.dat .non]).set st.length a = st ++ [a] := by rw [List.set_append_right _ _ (Nat.le_refl _), Nat.sub_self]; rfl
  rw [e1, e2] at r1
  exact r1
theorem Rel.pushOwn {σ : L2.St} {st : Store} {l : Addr} {vs : List V} {xs : List D} (r : Rel K ea H0 G H σ st) (hl : H l = none) (h0 : H0 l = none) (h : Dens K G vs xs) : Rel K ea H0 G (upd H l (.lst vs)) (σ ++ [some (.ref l)]) (st ++ [.own xs]) := by
  have r1 := (r.push (v := .non) .non).setOwn st.length hl h0 h
  have e1 : (σ ++ [some V.non]).set st.length (some (.ref l)) = σ ++ [some (.ref l)] := by rw [r.len, List.set_append_right _ _ (Nat.le_refl _), Nat.sub_self]; rfl
  have e2 : (st ++ [Slot.dat .non]).set st.length (.own xs) = st ++ [.own xs] := by rw [List.set_append_right _ _ (Nat.le_refl _), Nat.sub_self]; rfl
  rw [e1, e2] at r1
  exact r1
def aftQ (K : Fr) (ea : Addr) (W : WX) (G0 H0 : Hp) (σ : L2.St) (st : Store) (vs0 : List V) (ss0 : List Slot) (Q : List V → Hp → Prop) (r : R (List Slot)) : Prop := match r with
  | .ok ss => ∀ vs G' H', Ext G0 H0 G' H' → vs.length = ss.length → Rel K ea H0 G' H' (σ ++ (vs0 ++ vs).map some) (st ++ (ss0 ++ ss)) → Q vs H'
  | .rs c => ∀ G' H', Ext G0 H0 G' H' → Rel K ea H0 G' H' σ st → W (.ref (He.ga K c)) none σ H'
  | .no => False
def tQ (K : Fr) (ea : Addr) (W : WX) (f : MQ) : TA := fun σ H Q => ∃ G0 H0 G st vs0 ss0, Ext G0 H0 G H ∧ st.length = σ.length ∧ Rel K ea H0 G H (σ ++ vs0.map some) (st ++ ss0) ∧ aftQ K ea W G0 H0 σ st vs0 ss0 Q (f st)
theorem tQ_nil : ∀ σ H Q, tQ K ea W qNil σ H Q → tNil σ H Q := fun σ H Q h => by
  obtain ⟨G0, H0, G, st, vs0, ss0, x, hl, rl, k⟩ := h
  exact k [] G H x rfl (by rw [List.append_nil, List.append_nil]; exact rl)
theorem tQ_val {f : ME} {g : MQ} : ∀ σ H Q, tQ K ea W (qVal f g) σ H Q → tCons (tE K ea W f) (tQ K ea W g) σ H Q := fun σ H Q h => by
  obtain ⟨G0, H0, G, st, vs0, ss0, x, hl, rl, k⟩ := h
  refine ⟨H0, G, st, rl.left hl, ?_⟩
  unfold qVal at k
  cases z : f st with
  | no => rw [z] at k; exact k
  | rs c => rw [z] at k; exact fun G' H' e => k G' H' (x.trans e) ((rl.left hl).ext e)
  | ok d =>
    rw [z] at k
    intro G1 H1 e1 v dv
    refine ⟨G0, H0, G1, st, vs0 ++ [v], ss0 ++ [.dat d], x.trans e1, hl, ?_, ?_⟩
    · have r2 := (rl.ext e1).push dv
      rw [List.map_append, ← List.append_assoc, ← List.append_assoc]
      exact r2
    · cases z2 : g st with
      | no => simp only [R.bind, z2] at k; exact k
      | rs c => simp only [R.bind, z2] at k; exact k
      | ok ss =>
        simp only [R.bind, z2] at k
        intro vs G2 H2 e2 hv r2
        refine k (v :: vs) G2 H2 e2 (by simp [hv]) ?_
        rw [List.append_assoc, List.append_assoc] at r2
        exact r2
theorem tQ_own {a : MA} {g : MQ} : ∀ σ H Q, tQ K ea W (qOwn a g) σ H Q → tCons (tLst (tA K ea W a)) (tQ K ea W g) σ H Q := fun σ H Q h => by
  obtain ⟨G0, H0, G, st, vs0, ss0, x, hl, rl, k⟩ := h
  refine ⟨H0, G, st, rl.left hl, ?_⟩
  unfold qOwn at k
  cases z : a st with
  | no => rw [z] at k; exact k
  | rs c => rw [z] at k; exact fun G' H' e => k G' H' (x.trans e) ((rl.left hl).ext e)
  | ok ds =>
    rw [z] at k
    simp only [R.bind] at k
    intro G1 H1 e1 vs dvs
    split at k
    · rename_i hlen
      refine ⟨szl (by rw [dvs.length]; exact hlen), fun p hp => ?_⟩
      have x1 := x.trans e1
      have h0 := x1.h.back hp
      refine ⟨G0, H0, G1, st, vs0 ++ [.ref p], ss0 ++ [.own ds], x1.trans (Ext.newH e1.s hp), hl, ?_, ?_⟩
      · have r2 := (rl.ext e1).pushOwn hp h0 dvs
        rw [List.map_append, ← List.append_assoc, ← List.append_assoc]
        exact r2
      · cases z2 : g st with
        | no => simp only [R.bind, z2] at k; exact k
        | rs c => simp only [R.bind, z2] at k; exact k
        | ok ss =>
          simp only [R.bind, z2] at k
          intro vs G2 H2 e2 hv r2
          refine k (.ref p :: vs) G2 H2 e2 (by simp [hv]) ?_
          rw [List.append_assoc, List.append_assoc] at r2
          exact r2
    · exact k.elim
theorem tQ_of {f : MQ} {is : List Nat} {D : Ends} {σ : L2.St} (h : tS K ea W (mPar is f) D σ H) : ∃ G0 H0, tQ K ea W f σ H fun vs H1 => vs.length = is.length ∧ ∃ G1 st1, Ext G0 H0 G1 H1 ∧ Rel K ea H0 G1 H1 (setV is vs σ) st1 ∧ aftS K ea W G0 H0 D (.nx st1) := by
  obtain ⟨G0, H0, G, st, x, rl, k⟩ := h
  refine ⟨G0, H0, G0, H0, G, st, [], [], x, rl.len, by simpa using rl, ?_⟩
  unfold mPar at k
  cases z : f st with
  | no => rw [z] at k; exact k
  | rs c => rw [z] at k; exact fun G' H' e r => k G' H' σ e r
  | ok ss =>
    rw [z] at k
    simp only [R.thn] at k
    intro vs G' H' e hv r
    split at k
    · rename_i hc
      exact ⟨hv.trans hc.1, G', setS is ss st, e, Rel.mvs is (by simpa using r) rl.len hv hc.1 hc.2, k⟩
    · exact k.elim
theorem tgs_set : ∀ {is : List Nat} {vs : List V} {σ : L2.St} {Q : L2.St → Hp → Prop}, vs.length = is.length → Q (setV is vs σ) H → tgs is vs σ H Q
  | [], [], σ, Q, _, q => ⟨rfl, q⟩
  | [], _ :: _, σ, Q, h, _ => by cases h
  | _ :: _, [], σ, Q, h, _ => by cases h
  | i :: is, v :: vs, σ, Q, h, q => ⟨v, vs, rfl, tgs_set (is := is) (Nat.succ.inj h) q⟩
end
section
variable {X : Cx} {ea : Addr} {W : WX} {a b c : Expr} {es : List Expr} {f : ME} {g : MQ} {ar : MA} {pos : Pos}
theorem gq_nil : PA X [] (tQ X.K ea W qNil) := pa_nil.weak tQ_nil
theorem gq_val (ha : PE X a (tE X.K ea W f)) (hr : PA X es (tQ X.K ea W g)) (hs : starEach (a :: es) X.env = (false, eval a X.env) :: starEach es X.env := by rfl) : PA X (a :: es) (tQ X.K ea W (qVal f g)) := (pa_cons ha hr hs).weak tQ_val
theorem gq_own {els : List Expr} {p : Pos} (ha : PA X els (tA X.K ea W ar)) (hr : PA X es (tQ X.K ea W g)) (hs : starEach (.List els p :: es) X.env = (false, eval (.List els p) X.env) :: starEach es X.env := by rfl) : PA X (.List els p :: es) (tQ X.K ea W (qOwn ar g)) := (pa_cons (pe_lst ha) hr hs).weak tQ_own
theorem gs_par2 {i j : Nat} {x y : Str} {px py pt : Pos} {kt k2 pt2} (hc : X.calm = true) (hN : X.N.Nodup) (hi : X.N[i]? = some x) (hj : X.N[j]? = some y) (hij : i ≠ j) (hx : X.env.scope.names.lookup x = some .local) (hy : X.env.scope.names.lookup y = some .local)
    (ha : PA X [a, b] (tQ X.K ea W g)) (hw : swappedStores [.Tuple [.Name x px, .Name y py] kt pt] (.Tuple [a, b] k2 pt2) X.env = pure (some [x, y]) := by rfl)
    (hs : swapsWithSole [.Tuple [.Name x px, .Name y py] kt pt] (.Tuple [a, b] k2 pt2) pos.line X.env = pure false := by rfl) :
    PS X (.Assign [.Tuple [.Name x px, .Name y py] kt pt] (.Tuple [a, b] k2 pt2) pos) (tS X.K ea W (mPar [i, j] g)) := by
  refine (ps_par (ta := tQ X.K ea W g) hc hN hi hj hij hx hy ha hw hs).weak fun D σ H h => ?_
  obtain ⟨G0, H0, q⟩ := tQ_of h
  obtain ⟨G0', H0', G, st, vs0, ss0, x, hl, rl, k⟩ := q
  refine ⟨G0', H0', G, st, vs0, ss0, x, hl, rl, ?_⟩
  cases z : g st with
  | no => rw [z] at k; exact k
  | rs c => rw [z] at k; exact k
  | ok ss =>
    rw [z] at k
    intro vs G' H' e hv r
    obtain ⟨h1, G1, st1, e1, r1, k1⟩ := k vs G' H' e hv r
    match vs, h1 with
    | [v, w], _ => exact ⟨v, w, rfl, k1 G1 H' _ e1 r1⟩
theorem gs_par3 {i j l : Nat} {x y z : Str} {px py pz pt : Pos} {kt k2 pt2} (hc : X.calm = true) (hN : X.N.Nodup) (hi : X.N[i]? = some x) (hj : X.N[j]? = some y) (hl : X.N[l]? = some z) (hij : i ≠ j) (hil : i ≠ l) (hjl : j ≠ l)
    (hx : X.env.scope.names.lookup x = some .local) (hy : X.env.scope.names.lookup y = some .local) (hz : X.env.scope.names.lookup z = some .local) (ha : PA X [a, b, c] (tQ X.K ea W g))
    (hw : swappedStores [.Tuple [.Name x px, .Name y py, .Name z pz] kt pt] (.Tuple [a, b, c] k2 pt2) X.env = pure (some [x, y, z]) := by rfl)
    (hs : swapsWithSole [.Tuple [.Name x px, .Name y py, .Name z pz] kt pt] (.Tuple [a, b, c] k2 pt2) pos.line X.env = pure false := by rfl) :
    PS X (.Assign [.Tuple [.Name x px, .Name y py, .Name z pz] kt pt] (.Tuple [a, b, c] k2 pt2) pos) (tS X.K ea W (mPar [i, j, l] g)) := by
  refine (ps_par3 (ta := tQ X.K ea W g) hc hN hi hj hl hij hil hjl hx hy hz ha hw hs).weak fun D σ H h => ?_
  obtain ⟨G0, H0, q⟩ := tQ_of h
  obtain ⟨G0', H0', G, st, vs0, ss0, x, hl, rl, k⟩ := q
  refine ⟨G0', H0', G, st, vs0, ss0, x, hl, rl, ?_⟩
  cases z : g st with
  | no => rw [z] at k; exact k
  | rs c => rw [z] at k; exact k
  | ok ss =>
    rw [z] at k
    intro vs G' H' e hv r
    obtain ⟨h1, G1, st1, e1, r1, k1⟩ := k vs G' H' e hv r
    match vs, h1 with
    | [u, v, w], _ => exact ⟨u, v, w, rfl, k1 G1 H' _ e1 r1⟩
/-- as a tuple that is taken apart -/
theorem gs_parT {ts es : List Expr} {n : Nat} {is : List Nat} {kt k2 : Nat} {pt pt2 : Pos} (hn : is.length = n) (ha : PA X es (tQ X.K ea W g)) (hc : X.calm = true) (hp : PGs X ts (tgs is)) (h3 : n ≤ 100000) (hn2 : (assignEach ts X.env).length = n := by rfl) (hst : (assignEach ts X.env).findIdx? (·.1) = none := by rfl)
    (hs : swapsWithSole [.Tuple ts kt pt] (.Tuple es k2 pt2) pos.line X.env = pure false := by rfl) (hw : swappedStores [.Tuple ts kt pt] (.Tuple es k2 pt2) X.env = pure none := by rfl) (h1 : (assignEach [.Tuple ts kt pt] X.env).map (·.2) = [assign (.Tuple ts kt pt) X.env] := by rfl) :
    PS X (.Assign [.Tuple ts kt pt] (.Tuple es k2 pt2) pos) (tS X.K ea W (mPar is g)) := by
  refine (ps_asg (te := tTup (tQ X.K ea W g)) (pe_tup ha) (pg_tup hc hp hn2 hst) hs hw h1).weak fun D σ H h => ?_
  obtain ⟨G0, H0, q⟩ := tQ_of h
  obtain ⟨G0', H0', G, st, vs0, ss0, x, hl, rl, k⟩ := q
  refine ⟨G0', H0', G, st, vs0, ss0, x, hl, rl, ?_⟩
  cases z : g st with
  | no => rw [z] at k; exact k
  | rs c => rw [z] at k; exact k
  | ok ss =>
    rw [z] at k
    intro vs G' H' e hv r
    obtain ⟨h1, G1, st1, e1, r1, k1⟩ := k vs G' H' e hv r
    refine ⟨szl (by omega), fun p hp => ⟨p, vs, rfl, SqT.of upd_same, by omega, tgs_set h1 ?_⟩⟩
    have ex := Ext.newH (o := .tup vs) e1.s hp
    exact k1 G1 _ _ (e1.trans ex) (r1.ext ex)
end
end Pg
namespace Pg
open PySem PySem.Spec PyProof.Rows L2
theorem gt_cmp {X : Cx} {ea : Addr} {W : WX} {a b : Expr} {f g : ME} {pos : Pos} {op : CmpOp} {r : R2} {o : D → D → Option D} (ho : OpR X (compareOp op) r) (ok : Op2 X.K r o) (ha : PE X a (tE X.K ea W f)) (hb : PE X b (tE X.K ea W g)) (hm : behindInMarks op b = false) : PT X (.Compare a [op] [b] pos) (tT X.K ea W (mVal (bin o f g))) :=
  (pt_cmpR ho ha hb hm).weak fun σ H Q hq => tE_bin ok σ H _ (tT_val (f := bin o f g) σ H Q hq)
end Pg
namespace Pg
open PySem PySem.Spec PyProof.Rows L2
/-- the end of a law whose def may let exceptions out of its callees -/
theorem walk_end {l : PySem.W.OpenLaw} {n k : Nat} {q : Program} {loose : List Str} {XP : (Str → Option Value) → Heap → Prop} {YP : World → Heap → Prop} {d : DefRec} {x : Str} (hn : l.most = some n) (hn2 : n ≤ sizeLine) (hdf : d.params.defaults = []) (hr : Room k callerA)
    (F : ∀ (w : World) (mg : Str → Option Value) (fa : Addr) (h : Heap), YP w h → h.Ns mainGlobals mg → mg d.name = some (.ref fa) →
      ∃ (K : Fr) (fd : FuncData) (sp : Sp), K.In h ∧ (∀ (s : Shared) (u : Value), BindsTo s fd ⟨[u], []⟩ [(x, u)]) ∧
        (∀ (H : Hp) (a : Addr) (ns : List Int), ns.length ≤ n → Only H → SqL K H a (ns.map V.int) → sp [.ref a] H (fun v _ => v = .bl true) fun _ _ _ => False) ∧
        ∀ base : Heap, FnOk l.prog w K mg base (L2.CX l.prog w) k fa fd [x] sp) :
    PySem.W.WalkO q loose XP YP l.row.toRowW d [] (fun f vs => PySem.call f vs) := by
  refine Att.attach_call hn hdf fun w s₀ s₁ mg mb fa o pm cd doc a vs ns G Y ho hd hcd hmg hobj hints hlen hg => ?_
  obtain ⟨K, fd, sp, KX, hb, hsp, hF⟩ := F w mg fa _ Y G.T.g hmg
  exact law_call KX G.T.g G.T.b G.T.builtins G.T.nolimit hg hobj hints (Nat.le_trans hlen hn2) hr (fun base _ _ => hF base) hb (fun H hO hS => hsp H a ns hlen hO hS) fun H e s' h => noCX H s₁ e s' h
end Pg

namespace Pg
open PySem PySem.Spec PyProof.Rows L2
theorem DefK.mono {P : Program} {w : World} {K : Fr} {mg : Str → Option Value} {base : Heap} {x : Str} {j k n : Nat} {F : List D → R D} (d : DefK P w K mg base x j n F) (h : j ≤ k) : DefK P w K mg base x k n F := by
  obtain ⟨fd, ps, a, b⟩ := d.ex
  exact ⟨d.m, d.kp, fd, ps, a.mono h, b⟩
/-! ### the least of a list of pairs -/
abbrev prP (p : Int × Int) : PyData := .tuple [.int p.1, .int p.2]
def prLt (p q : Int × Int) : Bool := decide (p.1 < q.1 ∨ (p.1 = q.1 ∧ p.2 < q.2))
def minPr (x : Int × Int) (xs : List (Int × Int)) : Int × Int := xs.foldl (fun a y => if prLt y a = true then y else a) x
theorem minPr_map : ∀ (xs : List (Int × Int)) (x : Int × Int), PySem.W.minD (prP x) (xs.map prP) = prP (minPr x xs)
  | [], _ => rfl
  | y :: xs, x => by
    have e : PySem.W.minD (prP x) (prP y :: xs.map prP) = PySem.W.minD (if PySem.W.dataLt (prP y) (prP x) = true then prP y else prP x) (xs.map prP) := rfl
    have e2 : minPr x (y :: xs) = minPr (if prLt y x = true then y else x) xs := rfl
    rw [List.map_cons, e, e2, PySem.W.dataLt_ii]
    show PySem.W.minD (if prLt y x = true then _ else _) _ = _
    split
    · exact minPr_map xs y
    · exact minPr_map xs x
def prsOf : List D → Option (List (Int × Int))
  | [] => some []
  | .tup [.int a, .int b] :: r => (prsOf r).map fun q => (a, b) :: q
  | _ => none
def minPB (a : List D) : Option D := (lstArg a).bind fun xs => (prsOf xs).bind fun
  | p :: ps => some (.tup [.int (minPr p ps).1, .int (minPr p ps).2])
  | [] => none
theorem prsOf_inv : ∀ {xs : List D} {ps : List (Int × Int)}, prsOf xs = some ps → xs = ps.map fun p => D.tup [.int p.1, .int p.2]
  | [], _, h => by cases h; rfl
  | .tup [.int a, .int b] :: r, ps, h => by
    obtain ⟨q, h1, rfl⟩ := Option.map_eq_some_iff.mp (show (prsOf r).map _ = some ps from h)
    rw [prsOf_inv h1]
    rfl
theorem dens_pairs {K : Fr} {G H : Hp} (s : Ex G H) : ∀ {ps : List (Int × Int)} {ws : List V}, Dens K G ws (ps.map fun p => D.tup [.int p.1, .int p.2]) → DpAll K H ws (ps.map prP)
  | [], _, .nil => .nil
  | p :: ps, _, .cons h r => by
    have a : okd 2 (D.tup [.int p.1, .int p.2]) = true := rfl
    exact .cons (den_dp 2 (h.mono s) a) (dens_pairs s r)
theorem prs_alike (ps : List (Int × Int)) : PySem.W.AlikeAll (ps.map prP) := by
  refine ⟨fun x hx y hy => ?_, fun x hx => ?_⟩
  · obtain ⟨p, _, rfl⟩ := List.mem_map.mp hx
    obtain ⟨q, _, rfl⟩ := List.mem_map.mp hy
    rfl
  · obtain ⟨p, _, rfl⟩ := List.mem_map.mp hx
    exact fun h => by cases h
theorem prs_depth : ∀ ps : List (Int × Int), PyData.depthAll (ps.map prP) ≤ 2
  | [] => Nat.zero_le _
  | p :: ps => by
    rw [List.map_cons]
    simp only [PyData.depthAll, PyData.depth]
    have := prs_depth ps
    omega
/-- min(xs), a list of pairs of ints -/
def rMinP (K : Fr) : List V → Hp → VK → Prop := fun vs H Q => ∃ (a : Addr) (ws : List V) (p : Int × Int) (ps : List (Int × Int)), vs = [.ref a] ∧ SqL K H a ws ∧ DpAll K H ws ((p :: ps).map prP) ∧
  ∀ (i : Nat) (u : V), ws[i]? = some u → (p :: ps)[i]? = some (minPr p ps) → Q u H
theorem reads_pair {h : Heap} {v : Value} {p q : Int × Int} {as bs : List Addr} (r : Reads h v (prP p) as) (r2 : Reads h v (prP q) bs) : p = q := by
  have e := (Reads.unique r _ _ r2).1
  simp only [prP, PyData.tuple.injEq, List.cons.injEq, PyData.int.injEq, and_true] at e
  exact Prod.ext e.1 e.2
theorem rel_get : ∀ {vs : List V} {us : List Value}, Vals vs us → ∀ {i : Nat} {u : Value}, us[i]? = some u → ∃ v, vs[i]? = some v ∧ RelV v u
  | _, _, .nil, i, u, h => by simp at h
  | _, _, .cons h r, 0, u, e => by cases e; exact ⟨_, rfl, h⟩
  | _, _, .cons h r, i + 1, u, e => rel_get r (i := i) (by simpa using e)
theorem dp_get {K : Fr} {H : Hp} : ∀ {vs : List V} {ds : List PyData}, DpAll K H vs ds → ∀ {i : Nat} {v : V}, vs[i]? = some v → ∃ d, ds[i]? = some d ∧ Dp K H v d
  | _, _, .nil, i, u, h => by simp at h
  | _, _, .cons h r, 0, u, e => by cases e; exact ⟨_, rfl, h⟩
  | _, _, .cons h r, i + 1, u, e => dp_get r (i := i) (by simpa using e)
theorem cr_minP {X : Cx} (hc : X.calm = true) (hu : X.A.units + 64 < cLine) : CallR X (.builtin "min") (rMinP X.K) := by
  intro pins s σ H vs us Q I r h
  obtain ⟨a, ws, p, ps, rfl, hs, dp, q⟩ := h
  obtain ⟨its, rv, hl, _⟩ := I.list hs
  rw [Vals.ref1 r]
  obtain ⟨as, hr⟩ := Dp.readsAll I _ _ _ dp rv
  rw [List.map_cons] at hr
  have hd := prs_depth (p :: ps)
  rw [List.map_cons] at hd
  have hal := prs_alike (p :: ps)
  rw [List.map_cons] at hal
  refine PySem.W.min_list_data (I.ok.hd hc) (vs := its.toArray) hl.isList hr hal (by omega) fun i v h' tk bs hv r2 hk => ?_
  rw [minPr_map] at r2
  have hv' : its[i]? = some v := by simpa using hv
  obtain ⟨u, hu1, hu2⟩ := rel_get rv hv'
  obtain ⟨d, hd1, hd2⟩ := dp_get dp hu1
  rw [List.getElem?_map] at hd1
  obtain ⟨pr, hp1, rfl⟩ := Option.map_eq_some_iff.mp hd1
  obtain ⟨cs, r3⟩ := Dp.reads I _ _ _ hd2 hu2
  have e := reads_pair (Reads.keeps hk r3) r2
  exact ⟨u, H, I.kept hk, hu2, q i u hu1 (by rw [hp1, e])⟩
theorem ok_minP {K : Fr} : OpN K (rMinP K) minPB := by
  intro G H vs xs z Q s d e k
  obtain ⟨ys, h1, e⟩ := Option.bind_eq_some_iff.mp e
  obtain ⟨ps, h2, e⟩ := Option.bind_eq_some_iff.mp e
  match ps, e with
  | p :: ps, e =>
    cases e
    rw [lstArg_inv h1] at d
    obtain ⟨v, rfl, h⟩ := one_inv d
    cases h with
    | @lst a us _ ha hd =>
      rw [prsOf_inv h2] at hd
      refine ⟨a, us, p, ps, rfl, SqL.of (s _ _ ha), dens_pairs s hd, fun i u hu hp => ?_⟩
      obtain ⟨w, hw, dw⟩ := hd.get (i := i) (by rw [List.getElem?_map, hp]; rfl)
      rw [hu] at hw
      cases hw
      exact k _ _ _ (Ext.refl s) dw
end Pg

namespace Pg
open PySem PySem.Spec PyProof.Rows L2
/-! ### len(set(xs)) -/
def dedupI (ns : List Int) : List Int := PyProof.Rows.firstMet (fun i => ns.getD i 0) ns.length
def lensetD : D → Option D
  | .lst xs => (intsOf xs).bind fun ns => if ns.length ≤ 4000 then some (.int ((dedupI ns).length : Nat)) else none
  | _ => none
def tLenSet (K : Fr) (ta : TE) : TE := fun σ H Q => ta σ H fun x H1 => ∃ (l : Addr) (ns : List Int), x = .ref l ∧ SqL K H1 l (ns.map V.int) ∧ ns.length ≤ 4000 ∧ Q (.int ((dedupI ns).length : Nat)) H1
theorem pe_lenSet {X : Cx} {a : Expr} {ta : TE} {p p2 q pos : Pos} (hg : Gl X "len") (hm : X.mg "len" = none) (hg2 : Gl X "set") (hm2 : X.mg "set" = none) (ha : PE X a ta) (hc : X.calm = true)
    (na : starEach [a] X.env = (false, eval a X.env) :: starEach [] X.env) : PE X (.Call (.Name "len" p) [.Call (.Name "set" p2) [a] [] q] [] pos) (tLenSet X.K ta) := by
  refine ⟨fun pins s σ H Q I h => ?_⟩
  refine Call_ (ld_blt I hg hm boot_len ?_)
  refine PyProof.Rows.callWith_builtin1 (PyProof.Rows.args_cons ?_ rfl) rfl rfl
  refine Call_ (ld_blt I hg2 hm2 boot_set ?_)
  refine PyProof.Rows.callWith_type1 (PyProof.Rows.args_cons (thn (ha.run pins s σ H _ I h) fun v s1 ⟨x, H1, I1, r1, q1⟩ => PyProof.Rows.args_nil ?_) na) na rfl
  obtain ⟨l, ns, rfl, hq, hl, q1⟩ := q1
  cases r1
  obtain ⟨its, r, pl, hz⟩ := I1.list hq
  have hlen : its.toArray.size = ns.length := by rw [List.size_toArray, ← r.length, List.length_map]
  refine call_set_list (I1.ok.hd hc) pl.isList (by simpa using RZ.intsAre_vals r) (by rw [hlen]; unfold scanBound; omega) fun h' tk hS hk => ?_
  refine PyProof.Rows.args_nil ?_
  rw [hlen] at hS
  obtain ⟨o, es, ep, t, ho, hex, hd, _, _, _, hf, hn⟩ := hS
  have I2 : Inv X pins σ H1 { s1 with heap := h', toks := tk } := I1.kept fun b o e => hk b o (Heap.lt_size e) e
  have hle := PyProof.Rows.firstMet_length_le (fun i => ns.getD i 0) ns.length
  exact call_len_set ho hex hd hf (by rw [hn] <;> omega) ⟨.int ((dedupI ns).length : Nat), H1, I2.tok _, ⟨_, by rw [hn]; rfl⟩, q1⟩
theorem g_lenset {X : Cx} {ea : Addr} {W : WX} {a : Expr} {f : ME} {p p2 q pos : Pos} (hc : X.calm = true) (hm : X.mg "len" = none) (hm2 : X.mg "set" = none) (ha : PE X a (tE X.K ea W f)) (hg : Gl X "len" := by rfl) (hg2 : Gl X "set" := by rfl)
    (na : starEach [a] X.env = (false, eval a X.env) :: starEach [] X.env := by rfl) : PE X (.Call (.Name "len" p) [.Call (.Name "set" p2) [a] [] q] [] pos) (tE X.K ea W (unr lensetD f)) :=
  (pe_lenSet hg hm hg2 hm2 ha hc na).weak fun σ H Q hq => by
    obtain ⟨H0, G, st, rl, a⟩ := hq
    refine ⟨H0, G, st, rl, aft_mono (aft_bind a) fun x G1 H1 e1 a1 v dv => ?_⟩
    obtain ⟨z, ez, k⟩ := aft_of a1
    cases dv with
    | @lst l vs xs hl hd =>
      have ez' : ((intsOf xs).bind fun ns => if ns.length ≤ 4000 then some (D.int ((dedupI ns).length : Nat)) else none) = some z := ez
      obtain ⟨ns, h1, h2⟩ := Option.bind_eq_some_iff.mp ez'
      rw [intsOf_inv h1] at hd
      rw [hd.ints_inv] at hl
      split at h2
      · rename_i h4
        cases h2
        exact ⟨l, ns, rfl, SqL.of (e1.s _ _ hl), h4, k _ _ (Ext.refl e1.s) _ (.int _)⟩
      · cases h2
    | _ => cases ez
end Pg

namespace Pg
open PySem PySem.Spec PyProof.Rows L2
/-! ### a op1 b op2 c op3 d, as a test -/
def eChn3 (o1 o2 o3 : D → D → Option D) (f g h i : ME) : ME := fun st => (f st).bind fun x => (g st).bind fun y => (R.of (o1 x y)).bind fun z => (R.of (asB z)).bind fun b => if b = true then (h st).bind fun w => (R.of (o2 y w)).bind fun z2 => (R.of (asB z2)).bind fun b2 => if b2 = true then (i st).bind fun u => R.of (o3 w u) else .ok (.bl false) else .ok (.bl false)
def tChn3 (r1 r2 r3 : R2) (ta tb tc td : TE) : TE := fun σ H Q => ta σ H fun x H1 => tb σ H1 fun y H2 => r1 x y H2 fun z H3 => ∃ k, z = .bl k ∧
  (if k = true then tc σ H3 fun w H4 => r2 y w H4 fun z2 H5 => ∃ k2, z2 = .bl k2 ∧ (if k2 = true then td σ H5 fun u H6 => r3 w u H6 Q else Q (.bl false) H5) else Q (.bl false) H3)
section
variable {X : Cx} {a b c d : Expr} {ta tb tc td : TE} {pos : Pos}
theorem pt_chn3 {p1 p2 p3 : CmpOp} {r1 r2 r3 : R2} (h1 : OpR X (compareOp p1) r1) (h2 : OpR X (compareOp p2) r2) (h3 : OpR X (compareOp p3) r3) (ha : PE X a ta) (hb : PE X b tb) (hc : PE X c tc) (hd : PE X d td)
    (hm : lastMarks [p1, p2, p3] [b, c, d] = false := by with_unfolding_all rfl) : PT X (.Compare a [p1, p2, p3] [b, c, d] pos) (tTest (tChn3 r1 r2 r3 ta tb tc td)) := by
  refine ⟨fun pins s σ H Q I h => ?_⟩
  refine isTrue_chain (thn (ha.run pins s σ H _ I h) fun v s1 ⟨x, H1, I1, q1, e1⟩ => test_link (thn (hb.run pins s1 σ H1 _ I1 e1) fun u s2 ⟨y, H2, I2, q2, e2⟩ =>
    thn (h1 pins s2 σ H2 x y v u _ I2 q1 q2 e2) fun m s3 ⟨z, H3, I3, q3, k, e, e3⟩ => ?_)) hm
  subst e
  cases q3
  refine wpAny_truthy_bool ?_
  cases k with
  | false =>
    obtain ⟨k', e', q'⟩ := e3
    cases e'
    exact ite_ff ⟨H3, I3, q'⟩
  | true =>
    refine ite_tt (test_link (thn (hc.run pins s3 σ H3 _ I3 e3) fun w' s4 ⟨z', H4, I4, q4, e4⟩ => thn (h2 pins s4 σ H4 y z' u w' _ I4 q2 q4 e4) fun m2 s5 ⟨z2, H5, I5, q5, k2, e5, e6⟩ => ?_))
    subst e5
    cases q5
    refine wpAny_truthy_bool ?_
    cases k2 with
    | false =>
      obtain ⟨k', e', q'⟩ := e6
      cases e'
      exact ite_ff ⟨H5, I5, q'⟩
    | true =>
      refine ite_tt (test_last (thn (hd.run pins s5 σ H5 _ I5 e6) fun t' s6 ⟨t, H6, I6, q6, e7⟩ => thn (h3 pins s6 σ H6 z' t w' t' _ I6 q4 q6 e7) fun m3 s7 ⟨z3, H7, I7, q7, k3, e8, e9⟩ => ?_))
      subst e8
      cases q7
      exact wpAny_truthy_bool ⟨H7, I7, e9⟩
end
section
variable {K : Fr} {ea : Addr} {W : WX}
theorem aft_up {σ : L2.St} {G H G' H' : Hp} {α : Type} {r : R α} {k : α → Hp → Hp → Prop} (a : aft K W σ G H r k) (e : Ext G H G' H') : aft K W σ G' H' r k := by
  cases r with
  | no => exact a
  | rs c => exact fun G4 H4 e4 => a G4 H4 (e.trans e4)
  | ok d => exact fun G4 H4 e4 => a G4 H4 (e.trans e4)
theorem tE_chn3 {r1 r2 r3 : R2} {o1 o2 o3 : D → D → Option D} {f g h i : ME} (k1 : Op2 K r1 o1) (k2 : Op2 K r2 o2) (k3 : Op2 K r3 o3) : ∀ σ H Q, tE K ea W (eChn3 o1 o2 o3 f g h i) σ H Q → tChn3 r1 r2 r3 (tE K ea W f) (tE K ea W g) (tE K ea W h) (tE K ea W i) σ H Q := fun σ H Q hq => by
  obtain ⟨H0, G, st, rl, a⟩ := hq
  refine ⟨H0, G, st, rl, aft_mono (aft_bind a) fun x G1 H1 e1 a1 v dv => ?_⟩
  refine ⟨H0, G1, st, rl.ext e1, aft_mono (aft_bind a1) fun y G2 H2 e2 a2 w dw => ?_⟩
  cases ez : o1 x y with
  | none => rw [ez] at a2; exact a2.elim
  | some z =>
    rw [ez] at a2
    refine k1 G2 H2 v w x y z _ e2.s (dv.mono e2.g) dw ez fun q G3 H3 e3 dq => ?_
    cases ez2 : asB z with
    | none => unfold R.of at a2; simp only [R.bind] at a2; rw [ez2] at a2; exact a2.elim
    | some k =>
      unfold R.of at a2; simp only [R.bind] at a2; rw [ez2] at a2
      simp only [R.bind] at a2
      rw [asB_inv ez2] at dq
      refine ⟨k, dq.bl_inv, ?_⟩
      cases k with
      | false => exact a2 G3 H3 e3 _ (.bl _)
      | true =>
        have a3 := aft_up a2 e3
        refine ⟨H0, G3, st, ((rl.ext e1).ext e2).ext e3, aft_mono (aft_bind a3) fun w2 G4 H4 e4 a5 u du => ?_⟩
        cases ey : o2 y w2 with
        | none => rw [ey] at a5; exact a5.elim
        | some z2 =>
          rw [ey] at a5
          refine k2 G4 H4 w u y w2 z2 _ e4.s ((dw.mono e3.g).mono e4.g) du ey fun q2 G5 H5 e5 dq2 => ?_
          cases ey2 : asB z2 with
          | none => simp only [R.bind] at a5; rw [ey2] at a5; exact a5.elim
          | some kk =>
            simp only [R.bind] at a5
            rw [ey2] at a5
            simp only [R.bind] at a5
            rw [asB_inv ey2] at dq2
            refine ⟨kk, dq2.bl_inv, ?_⟩
            cases kk with
            | false => exact a5 G5 H5 e5 _ (.bl _)
            | true =>
              have a6 := aft_up a5 e5
              refine ⟨H0, G5, st, ((((rl.ext e1).ext e2).ext e3).ext e4).ext e5, aft_mono (aft_bind a6) fun t G6 H6 e6 a7 tv dt => ?_⟩
              obtain ⟨z3, ez3, kk2⟩ := aft_of a7
              exact k3 G6 H6 _ _ w2 t z3 Q e6.s ((du.mono e5.g).mono e6.g) dt ez3 fun u G' H' e du => kk2 G' H' e u du
end
theorem gt_chn3 {X : Cx} {ea : Addr} {W : WX} {a b c d : Expr} {f g h i : ME} {pos : Pos} {p1 p2 p3 : CmpOp} {r1 r2 r3 : R2} {o1 o2 o3 : D → D → Option D} (h1 : OpR X (compareOp p1) r1) (k1 : Op2 X.K r1 o1) (h2 : OpR X (compareOp p2) r2) (k2 : Op2 X.K r2 o2) (h3 : OpR X (compareOp p3) r3) (k3 : Op2 X.K r3 o3)
    (ha : PE X a (tE X.K ea W f)) (hb : PE X b (tE X.K ea W g)) (hc : PE X c (tE X.K ea W h)) (hd : PE X d (tE X.K ea W i)) (hm : lastMarks [p1, p2, p3] [b, c, d] = false := by with_unfolding_all rfl) :
    PT X (.Compare a [p1, p2, p3] [b, c, d] pos) (tT X.K ea W (mVal (eChn3 o1 o2 o3 f g h i))) := (pt_chn3 h1 h2 h3 ha hb hc hd hm).weak fun σ H Q hq => by
  have q1 := tT_val (f := eChn3 o1 o2 o3 f g h i) σ H Q hq
  exact tE_chn3 k1 k2 k3 σ H _ q1
/-! ### {k1: v1, k2: v2, k3: v3}[e], texts -/
def sel3D (k1 v1 k2 v2 k3 v3 : PySem.Str) : D → Option D
  | .str x => if k1 = x then some (.str v1) else if k2 = x then some (.str v2) else if k3 = x then some (.str v3) else none
  | _ => none
theorem merge3 {k1 v1 k2 v2 k3 v3 : PySem.Str} (h12 : k1 ≠ k2) (h13 : k1 ≠ k3) (h23 : k2 ≠ k3) : mergeK [] [((.inr k1 : Key), V.str v1), (.inr k2, V.str v2), (.inr k3, V.str v3)] = [(.inr k1, V.str v1), (.inr k2, V.str v2), (.inr k3, V.str v3)] := by
  simp [mergeK, putK, h12, h13, h23]
theorem val3 {k1 v1 k2 v2 k3 v3 x : PySem.Str} {z : D} (h : sel3D k1 v1 k2 v2 k3 v3 (.str x) = some z) : ∃ y, z = .str y ∧ valV [((.inr k1 : Key), V.str v1), (.inr k2, V.str v2), (.inr k3, V.str v3)] (.inr x) = some (.str y) := by
  simp only [sel3D] at h
  split at h
  · rename_i e
    cases h
    exact ⟨_, rfl, by simp [valV, List.find?_cons, e]⟩
  · rename_i n1
    split at h
    · rename_i e
      cases h
      subst e
      exact ⟨_, rfl, by simp [valV, List.find?_cons, n1]⟩
    · rename_i n2
      split at h
      · rename_i e
        cases h
        subst e
        exact ⟨_, rfl, by simp [valV, List.find?_cons, n1, n2]⟩
      · cases h
theorem g_sel3 {X : Cx} {ea : Addr} {W : WX} {e : Expr} {f : ME} {k1 v1 k2 v2 k3 v3 : PySem.Str} {j1 j2 j3 l1 l2 l3 : Nat} {p1 p2 p3 q1 q2 q3 pd pos : Pos} (hu : X.A.units + 64 < cLine) (he : PE X e (tE X.K ea W f)) (h12 : k1 ≠ k2) (h13 : k1 ≠ k3) (h23 : k2 ≠ k3)
    (hs : NoSl e := by intro _ _; rfl) : PE X (.Subscript (.Dict [some (.Constant (.str k1) j1 p1), some (.Constant (.str k2) j2 p2), some (.Constant (.str k3) j3 p3)] [.Constant (.str v1) l1 q1, .Constant (.str v2) l2 q2, .Constant (.str v3) l3 q3] pd) e pos) (tE X.K ea W (unr (sel3D k1 v1 k2 v2 k3 v3) f)) :=
  (pe_dget (by omega) (pe_disp (pps_cons pe_str pe_str (pps_cons pe_str pe_str (pps_cons pe_str pe_str pps_nil))) rfl rfl (by simp) (show 3 ≤ 15 by decide)) he hs).weak fun σ H Q hq => by
    obtain ⟨H0, G, st, rl, a⟩ := hq
    intro p hp
    refine ⟨upd_same, [(.inr k1, V.str v1), (.inr k2, V.str v2), (.inr k3, V.str v3)], rfl, show 3 ≤ 15 by decide, ?_⟩
    have hn : ∀ o o', upd (upd H p o) p o' = upd H p o' := fun o o' => by
      funext x
      by_cases q : x = p
      · subst q; rw [upd_same, upd_same]
      · rw [upd_ne q, upd_ne q, upd_ne q]
    rw [hn, merge3 h12 h13 h23]
    have ex : Ext G H G (upd H p (.dK [(.inr k1, V.str v1), (.inr k2, V.str v2), (.inr k3, V.str v3)])) := Ext.newH rl.s hp
    have a' := aft_up a ex
    refine ⟨H0, G, st, rl.ext ex, aft_mono (aft_bind a') fun x G1 H1 e1 a1 v dv => ?_⟩
    obtain ⟨z, ez, k⟩ := aft_of a1
    cases x with
    | str x =>
      obtain ⟨y, rfl, hv⟩ := val3 ez
      have dv' := dv.str_inv
      subst dv'
      have hd : H1 p = some (.dK [(.inr k1, V.str v1), (.inr k2, V.str v2), (.inr k3, V.str v3)]) := e1.h _ _ upd_same
      have g := DGet.k (k := .inr x) hd
      rw [hv] at g
      exact ⟨p, _, rfl, g, k _ _ (Ext.refl e1.s) _ (.str _)⟩
    | _ => cases ez
end Pg

namespace Pg
open PySem PySem.Spec PyProof.Rows L2
/-! ### xs.extend(e), xs the def's own list -/
def extTo (i : Nat) (d : D) (st : Store) : RS := match d with
  | .lst zs => (match st[i]? with
    | some (.own xs) => if xs.length + zs.length ≤ 100000 then .nx (st.set i (.own (xs ++ zs))) else .no
    | _ => .no)
  | _ => .no
def mExt (i : Nat) (f : ME) : MS := fun st => ifOwn i st ((f st).thn st fun d => extTo i d st)
section
variable {X : Cx} {K : Fr} {ea : Addr} {W : WX} {e : Expr} {f : ME} {pos : Pos}
theorem tS_ext {i : Nat} {d : D} {D : Ends} {G0 H0 G H : Hp} {σ : L2.St} {st : Store} {l : Addr} {v : V} (x : Ext G0 H0 G H) (rl : Rel K ea H0 G H σ st) (dv : Den K G v d) (p : σ[i]? = some (some (.ref l))) (k : aftS K ea W G0 H0 D (extTo i d st)) :
    rExtend (.ref l) [v] H fun _ H1 => D.nx σ H1 := by
  unfold extTo at k
  cases dv with
  | @lst b us zs hb hd =>
    simp only at k
    cases q : st[i]? with
    | none => rw [q] at k; exact k.elim
    | some s =>
      rw [q] at k
      cases s with
      | own xs =>
        simp only at k
        split at k
        · rename_i hl
          obtain ⟨l', vs, a1, b1, c1, d1, e1⟩ := rl.ownL q
          rw [p] at a1
          cases a1
          refine ⟨l, b, vs, us, rfl, rfl, b1, rl.s _ _ hb, szl (by rw [c1.length, hd.length]; exact hl), k G _ σ ⟨x.g, fun a o z => ?_, fun a o z => ?_, x.n⟩ (rl.mut q p (c1.append hd))⟩
          · rw [upd_ne (ne_of_none z e1)]
            exact x.h a o z
          · rw [upd_ne (ne_of_none z d1)]
            exact x.s a o z
        · exact k.elim
      | _ => exact k.elim
  | _ => exact k.elim
theorem gs_ext {i : Nat} {x : Str} {p p2 p3 : Pos} (hN : X.N[i]? = some x) (hv : Vis X.env.scope x) (he : PE X e (tE X.K ea W f)) (hd : (x == ("__debug__" : Str)) = false := by decide) (hcd : (x == ("__classdict__" : Str)) = false := by decide)
    (hbase : attributeBase (.Name x p) "extend" X.env (eval (.Name x p) X.env) = eval (.Name x p) X.env := by rfl)
    (hfew : ((backTo p3 (starEach [e] X.env)).all (fun x => !x.1) && (backToKw p3 (keywordEach [] X.env)).all (fun x => x.1.isSome) && decide ([e].length + ([] : List Keyword).length + (if ([] : List Keyword).isEmpty then 0 else 1) < 30)) = true := by rfl)
    (hline : (p2.endLine == p3.line) = true := by rfl) (h1 : starEach [e] X.env = (false, eval e X.env) :: starEach [] X.env := by rfl) (hplain : (backTo p3 (starEach [] X.env)).any (·.1) = false := by rfl) (hs : swapsWith (.Call (.Attribute (.Name x p) "extend" p2) [e] [] p3) none pos.line X.env = pure false := by rfl) :
    PS X (.Expr (.Call (.Attribute (.Name x p) "extend" p2) [e] [] p3) pos) (tS X.K ea W (mExt i f)) :=
  (ps_expr (pe_bm PySem.F.plainAttrs_list PySem.F.slot_list_extend PySem.F.type_list_extend mt_extend (pe_var hN hv hd hcd) (pa_cons he pa_nil h1) hbase hfew hline h1 hplain) hs).weak fun D σ H h => by
    obtain ⟨G0, H0, G, st, x, rl, k⟩ := h
    obtain ⟨⟨l, vs, p, hl⟩, k⟩ := if_own rl k
    refine ⟨.ref l, p, .inl ⟨rfl, vs, SqL.of hl⟩, H0, G, st, rl, aft_mono (aftS_thn x rl k) fun d G1 H1 e1 k1 v dv => ?_⟩
    exact tS_ext (x.trans e1) (rl.ext e1) dv p k1
end
end Pg

namespace Pg
open PySem PySem.Spec PyProof.Rows L2
/-! ### set(xs) of a list of ints, as sorted(..) wants it -/
abbrev emptyS (w : World) : Obj := { cls := .type "set", dict := none, data := .set #[] 0 (.fresh 0 0 (!w.params.followText "set-order")) }
abbrev withS (w : World) (s : Shared) : Shared := { s with heap := s.heap.push (emptyS w) }
theorem set_of_list {P : Program} {w : World} {A : Around} {E : Value → Shared → Prop} {s : Shared} {l : Addr} {us : Array Value} (ns : List Int) {Q : Value → Shared → Prop} (calm : A.handled = none) (il : s.heap.IsList l us) (ia : IntsAre us.toList ns) (few : ns.length + 1 < scanBound)
    (done : ∀ (h' : Heap) (tk c : Nat), SetR w h' s.heap.objs.size (fun j => decide (j ∈ ns)) c → c ≤ ns.length → (∀ b o, s.heap.get? b = some o → h'.get? b = some o) → Q (.ref s.heap.objs.size) { s with heap := h', toks := tk }) :
    wpAny (model P w) A (call (.type "set") [.ref l]) Q E s := by
  have nsz : us.size = ns.length := by
    rw [← Array.length_toList]
    exact ia.length
  obtain ⟨m1, m2, mro⟩ := F.called_set.mro
  have x1 := F.called_set.made
  have x2 := F.called_set.sub
  refine wpAny_call (codeAny_of_tree ?_)
  show wpAny _ _ (callAny (.type "set") _) _ _ _
  refine wpAny_pure ⟨Code.quiet_builtin _ (by decide +kernel), codeAny_builtin F.entry_type_call ?_⟩
  rw [Around.under_plain (weight_type_call_type "set" [.ref l] []) rfl]
  have x3 := F.called_set.notType
  have x4 := F.called_set.canCreate
  have x5 := F.typeCall_set_1 (.ref l)
  repeat any_goals first | assumption | wp_step
  refine codeAny_mono (code_set_led1 (.ref l) (E := E) (Q₁ := fun z s₁ => z = .ref s.heap.objs.size ∧ s₁ = withS w s) ⟨rfl, rfl⟩) fun r s₁ hr => ?_
  match r, hr with
  | .error e, hr => exact hr
  | .ok (.ret z), hr =>
    obtain ⟨rfl, rfl⟩ := hr
    have at0 : (withS w s).heap.get? s.heap.objs.size = some (emptyS w) := Heap.get?_push_size _ rfl
    have ty : (withS w s).TypeIs (.ref s.heap.objs.size) "set" := ⟨_, at0, rfl⟩
    have x6 := F.called_set.init.lookup
    have x7 := F.called_set.init.bind (.ref s.heap.objs.size)
    repeat any_goals first | assumption | wp_step
    refine codeAny_mono (codeAny_call_builtin (R := wants (fun r s₂ => r = .none ∧ ∃ h' tk c, s₂ = { s with heap := h', toks := tk } ∧ SetR w h' s.heap.objs.size (fun j => decide (j ∈ ns)) c ∧ c ≤ ns.length ∧ ∀ b o, s.heap.get? b = some o → h'.get? b = some o) E)
      F.called_set.init.plain F.entry_set_init (check_set_init_1 ty ?_)) fun r₂ s₂ hr₂ => ?_
    · have lt : l < s.heap.objs.size := by
        obtain ⟨o, ho, _⟩ := il
        exact Heap.lt_size ho
      have il1 : (withS w s).heap.IsList l us := il.push _
      obtain ⟨⟨oc, od, oa, os⟩, at1, q1, n1, q2⟩ := il1
      simp only at q1 q2
      subst q1; subst q2
      have il2 : (withS w s).heap.IsList l us := ⟨_, at1, rfl, n1, rfl⟩
      have y1 := F.sub_list_set
      have y2 := F.sub_list_frozenset
      have y3 : (Value.type "list" == Value.type "dict") = false := by decide
      unfold Builtin.«set.__init__» noKeywords Builtin.Frozenset.updateFrom
      generalize gi : pyIter = PI
      wp_walk
      subst gi
      refine wpAny_pyIter_list il2 ?_
      refine wpAny_bind (wpAny_runValue ?_)
      have calm3 : A.in1.in1.in1.handled = none := by simp [calm]
      have sz1 : (withS w s).heap.objs.size = s.heap.objs.size + 1 := Heap.size_push ..
      have ne1 : l ≠ (withS w s).heap.objs.size := by
        rw [sz1]
        exact Nat.ne_of_lt (Nat.lt_succ_of_lt lt)
      have ne2 : s.heap.objs.size ∉ [(withS w s).heap.objs.size, l] := by
        simp only [List.mem_cons, List.not_mem_nil, or_false, not_or]
        rw [sz1]
        exact ⟨Nat.ne_of_lt (Nat.lt_succ_self _), Nat.ne_of_gt lt⟩
      have vals : ∀ (i : Nat) (v : Value), us[i]? = some v → ∃ k t, ns[i]? = some k ∧ v = .int k t := fun i v hv => by
        have hi : i < ns.length := by rw [← nsz]; exact (Array.getElem?_eq_some_iff.mp hv).1
        obtain ⟨t, e⟩ := PyProof.Rows.IntsAre.int_at ia i v (by rw [Array.getElem?_toList]; exact hv)
        refine ⟨ns[i], t, List.getElem?_eq_getElem hi, ?_⟩
        rw [e, List.getD_eq_getElem?_getD, List.getElem?_eq_getElem hi]
        rfl
      refine set_update_ints ((Walks.list calm3 _ l ne1 us).toS) s.heap.objs.size ne2 ns nsz few vals (us.size - 0) 0 _ (by omega) (Nat.zero_le _) ⟨⟨_, Heap.get?_push_size _ rfl, rfl, rfl⟩, (il2.push _)⟩ ?first ?last
      case first => exact ⟨0, Nat.le_refl 0, setR_new_at (Heap.get?_push_of_some _ at0)⟩
      case last =>
        intro s' c' mv hc' sr
        obtain ⟨h', g2, d', tk', os'⟩ := s'
        have e1 : g2 = s.gens := mv.gens
        have e2 : d' = s.drawn := mv.drawn
        have e3 : os' = s.os := mv.os
        subst e1; subst e2; subst e3
        show wpAny _ _ _ _ _ _
        refine wpAny_pure ?_
        show wpAny _ _ (ret Value.none) _ _ _
        rw [nsz] at hc'
        refine wpAny_pure ⟨rfl, h', tk', c', rfl, sr, hc', fun b o e => ?_⟩
        have b0 : b < s.heap.objs.size := Heap.lt_size e
        refine mv.heap b o ?_ (Heap.get?_push_of_some _ (Heap.get?_push_of_some _ e))
        simp only [List.mem_cons, List.not_mem_nil, or_false, not_or]
        exact ⟨Nat.ne_of_lt b0, by
          have z := Nat.ne_of_lt (Nat.lt_succ_of_lt b0)
          rw [← Nat.succ_eq_add_one] at sz1
          exact sz1 ▸ z⟩
    · match r₂, hr₂ with
      | .error e, hr₂ => exact hr₂
      | .ok (.ret z), hr₂ =>
        obtain ⟨rfl, h', tk, c', rfl, sr, hc', kp⟩ := hr₂
        repeat any_goals first | assumption | wp_step
        exact done _ _ _ sr hc' kp
/-! ### sorted(set(xs)) -/
def sortsetD : D → Option D
  | .lst xs => (intsOf xs).bind fun ns => if (sortI (dedupI ns)).length < 64 ∧ ns.length ≤ 4000 then some (.lst ((sortI (dedupI ns)).map D.int)) else none
  | _ => none
end Pg

namespace Pg
open PySem PySem.Spec PyProof.Rows L2
/-! ### dicts of ints by ints -/
def dgetI (kvs : List (Int × Int)) (k : Int) : Option Int := match kvs with
  | [] => none
  | p :: r => if p.1 = k then some p.2 else dgetI r k
/-- what may be read of it -/
theorem dgetI_val (k : Int) : ∀ kvs : List (Int × Int), valV (dkV kvs) (.inl k) = (dgetI kvs k).map V.int
  | [] => rfl
  | p :: r => by
    unfold dgetI
    show valV ((Sum.inl p.1, V.int p.2) :: dkV r) (.inl k) = _
    split
    · rename_i e
      rw [valV_pos (by rw [e])]
      rfl
    · rename_i e
      rw [valV_neg (fun z => e (Sum.inl.inj z)), dgetI_val k r]
def putI (kvs : List (Int × Int)) (k v : Int) : List (Int × Int) := if kvs.any (fun p => decide (p.1 = k)) then kvs.map (fun p => if p.1 = k then (p.1, v) else p) else kvs ++ [(k, v)]
theorem put_dkV (kvs : List (Int × Int)) (k v : Int) : putK (dkV kvs) (.inl k) (.int v) = dkV (putI kvs k v) := by
  have e1 : ∀ kvs : List (Int × Int), ((dkV kvs).any fun kv => decide (kv.1 = Sum.inl k)) = kvs.any fun p => decide (p.1 = k) := fun kvs => by
    induction kvs with
    | nil => rfl
    | cons p r ih =>
      show (decide (Sum.inl p.1 = (Sum.inl k : Key)) || (dkV r).any _) = (decide (p.1 = k) || r.any _)
      rw [ih]
      congr 1
      by_cases h : p.1 = k
      · simp [h]
      · simp [h]
  have e2 : ∀ kvs : List (Int × Int), ((dkV kvs).map fun kv => if kv.1 = (Sum.inl k : Key) then (kv.1, V.int v) else kv) = dkV (kvs.map fun p => if p.1 = k then (p.1, v) else p) := fun kvs => by
    induction kvs with
    | nil => rfl
    | cons p r ih =>
      show (if (Sum.inl p.1 : Key) = Sum.inl k then ((Sum.inl p.1 : Key), V.int v) else (Sum.inl p.1, V.int p.2)) :: (dkV r).map _ = _
      rw [ih]
      by_cases h : p.1 = k
      · simp [h, dkV]
      · simp [h, dkV]
  unfold putK putI
  rw [e1]
  split
  · exact e2 kvs
  · simp [dkV]
theorem den_dic {K : Fr} {G H : Hp} {v : V} {b : Bool} {kvs : List (Int × Int)} (s : Ex G H) (d : Den K G v (.dic b kvs)) : ∃ a, v = .ref a ∧ Rd H a (.dK (dkV kvs)) := by
  cases d with
  | dic h => exact ⟨_, rfl, .inl (s _ _ h)⟩
  | dicL h => exact ⟨_, rfl, .inr ⟨_, s _ _ h⟩⟩
theorem rd_get {H : Hp} {a : Addr} {kvs : List (Int × Int)} (h : Rd H a (.dK (dkV kvs))) (k : Int) : DGet H a (.int k) ((dgetI kvs k).map V.int) := .inl ⟨dkV kvs, .inl k, h, rfl, (dgetI_val k kvs).symm⟩
def dixD : D → D → Option D
  | .dic _ kvs, .int k => (dgetI kvs k).map D.int
  | _, _ => none
def dinD (neg : Bool) : D → D → Option D
  | .int k, .dic _ kvs => some (.bl (if neg then !(dgetI kvs k).isSome else (dgetI kvs k).isSome))
  | _, _ => none
def getD1 (kvs : List (Int × Int)) : D → R D
  | .int k => .ok (match dgetI kvs k with
    | some v => .int v
    | none => .non)
  | _ => .no
def getD2 (kvs : List (Int × Int)) : D → D → R D
  | .int k, .int d => .ok (.int ((dgetI kvs k).getD d))
  | _, _ => .no
def onDic (d : D) (g : List (Int × Int) → R D) : R D := match d with
  | .dic _ kvs => g kvs
  | _ => .no
def eGet1 (f g : ME) : ME := fun st => (f st).bind fun x => onDic x fun kvs => (g st).bind fun y => getD1 kvs y
def eGet2 (f g h : ME) : ME := fun st => (f st).bind fun x => onDic x fun kvs => (g st).bind fun y => (h st).bind fun z => getD2 kvs y z
theorem aft_dic {K : Fr} {W : WX} {σ : L2.St} {G H : Hp} {d : D} {g : List (Int × Int) → R D} {k : D → Hp → Hp → Prop} (a : aft K W σ G H (onDic d g) k) : ∃ b kvs, d = .dic b kvs ∧ aft K W σ G H (g kvs) k := by
  cases d with
  | dic b kvs => exact ⟨b, kvs, rfl, a⟩
  | _ => exact a.elim
section
variable {X : Cx} {ea : Addr} {W : WX} {a b c : Expr} {f g h : ME} {pos apos cpos : Pos}
theorem g_dix (hu : X.A.units + 64 < cLine) (ha : PE X a (tE X.K ea W f)) (hb : PE X b (tE X.K ea W g)) (hs : NoSl b := by intro _ _; rfl) : PE X (.Subscript a b pos) (tE X.K ea W (bin dixD f g)) :=
  (pe_dget (by omega) ha hb hs).weak fun σ H Q hq => by
    obtain ⟨H0, G, st, rl, a⟩ := hq
    refine ⟨H0, G, st, rl, aft_mono (aft_bind a) fun x G1 H1 e1 a1 v dv => ?_⟩
    refine ⟨H0, G1, st, rl.ext e1, aft_mono (aft_bind a1) fun y G2 H2 e2 a2 w dw => ?_⟩
    obtain ⟨z, ez, k⟩ := aft_of a2
    cases x with
    | dic l kvs =>
      cases y with
      | int i =>
        obtain ⟨m, hm, rfl⟩ := Option.map_eq_some_iff.mp (show (dgetI kvs i).map D.int = some z from ez)
        obtain ⟨p, rfl, hp⟩ := den_dic (e1.s.trans e2.h) dv
        have q := rd_get hp i
        rw [hm] at q
        rw [dw.int_inv]
        exact ⟨p, .int m, rfl, q, k _ _ (Ext.refl e2.s) _ (.int m)⟩
      | _ => cases ez
    | _ => cases y <;> cases ez
theorem dinD_inv {neg : Bool} {z x y : D} (e : dinD neg x y = some z) : ∃ k l kvs, x = .int k ∧ y = .dic l kvs ∧ z = .bl (if neg then !(dgetI kvs k).isSome else (dgetI kvs k).isSome) := by
  cases x with
  | int k =>
    cases y with
    | dic l kvs => cases e; exact ⟨k, l, kvs, rfl, rfl, rfl⟩
    | _ => cases e
  | _ => cases y <;> cases e
theorem tE_din {neg : Bool} (σ : L2.St) (H : Hp) (Q : VK) (hq : tE X.K ea W (bin (dinD neg) f g) σ H Q) : tE X.K ea W f σ H fun y H1 => tE X.K ea W g σ H1 fun x H2 => ∃ a o, x = .ref a ∧ DGet H2 a y o ∧ Q (.bl (if neg then !o.isSome else o.isSome)) H2 := by
  obtain ⟨H0, G, st, rl, a⟩ := hq
  refine ⟨H0, G, st, rl, aft_mono (aft_bind a) fun x G1 H1 e1 a1 v dv => ?_⟩
  refine ⟨H0, G1, st, rl.ext e1, aft_mono (aft_bind a1) fun y G2 H2 e2 a2 w dw => ?_⟩
  obtain ⟨z, ez, k⟩ := aft_of a2
  obtain ⟨i, l, kvs, rfl, rfl, rfl⟩ := dinD_inv ez
  obtain ⟨p, rfl, hp⟩ := den_dic e2.s dw
  rw [dv.int_inv]
  refine ⟨p, (dgetI kvs i).map V.int, rfl, rd_get hp i, ?_⟩
  rw [Option.isSome_map]
  exact k _ _ (Ext.refl e2.s) _ (.bl _)
theorem g_din (hu : X.A.units + 64 < cLine) (ha : PE X a (tE X.K ea W f)) (hb : PE X b (tE X.K ea W g)) (hm : behindInMarks .In b = false := by rfl) : PE X (.Compare a [.In] [b] pos) (tE X.K ea W (bin (dinD false) f g)) :=
  (pe_cmp (pc_din (by omega) ha hb) hm).weak fun σ H Q hq => tE_din (neg := false) σ H Q hq
theorem g_dnin (hu : X.A.units + 64 < cLine) (ha : PE X a (tE X.K ea W f)) (hb : PE X b (tE X.K ea W g)) (hm : behindInMarks .NotIn b = false := by rfl) : PE X (.Compare a [.NotIn] [b] pos) (tE X.K ea W (bin (dinD true) f g)) :=
  (pe_cmp (pc_dnotin (by omega) ha hb) hm).weak fun σ H Q hq => tE_din (neg := true) σ H Q hq
theorem gt_din (hu : X.A.units + 64 < cLine) (ha : PE X a (tE X.K ea W f)) (hb : PE X b (tE X.K ea W g)) (hm : behindInMarks .In b = false := by rfl) : PT X (.Compare a [.In] [b] pos) (tT X.K ea W (mVal (bin (dinD false) f g))) :=
  (pt_cmp (pc_din (by omega) ha hb) hm).weak fun σ H Q hq => tE_din (neg := false) σ H _ (tT_val (f := bin (dinD false) f g) σ H Q hq)
theorem gt_dnin (hu : X.A.units + 64 < cLine) (ha : PE X a (tE X.K ea W f)) (hb : PE X b (tE X.K ea W g)) (hm : behindInMarks .NotIn b = false := by rfl) : PT X (.Compare a [.NotIn] [b] pos) (tT X.K ea W (mVal (bin (dinD true) f g))) :=
  (pt_cmp (pc_dnotin (by omega) ha hb) hm).weak fun σ H Q hq => tE_din (neg := true) σ H _ (tT_val (f := bin (dinD true) f g) σ H Q hq)
/-- d.get(k) -/
theorem g_dget1 (hu : X.A.units + 64 < cLine) (ha : PE X a (tE X.K ea W f)) (hb : PE X b (tE X.K ea W g)) (m : M1 X a "get" apos b cpos := by exact ⟨rfl, rfl, rfl, rfl⟩) : PE X (.Call (.Attribute a "get" apos) [b] [] cpos) (tE X.K ea W (eGet1 f g)) :=
  (pe_dget1 (by omega) ha hb m).weak fun σ H Q hq => by
    obtain ⟨H0, G, st, rl, a⟩ := hq
    refine ⟨H0, G, st, rl, aft_mono (aft_bind a) fun x G1 H1 e1 a1 v dv => ?_⟩
    obtain ⟨l, kvs, rfl, a2⟩ := aft_dic a1
    obtain ⟨p, rfl, hp⟩ := den_dic e1.s dv
    refine ⟨p, rfl, .inl ⟨_, hp⟩, H0, G1, st, rl.ext e1, aft_mono (aft_bind a2) fun y G2 H2 e2 a3 w dw => ?_⟩
    cases y with
    | int i =>
      obtain ⟨p', e', hp2⟩ := den_dic e2.s (dv.mono e2.g)
      cases e'
      rw [dw.int_inv]
      refine ⟨_, rd_get hp2 i, ?_⟩
      cases q : dgetI kvs i with
      | none => exact a3 _ _ (Ext.refl e2.s) _ (by rw [q]; exact .non)
      | some z => exact a3 _ _ (Ext.refl e2.s) _ (by rw [q]; exact .int z)
    | _ => exact a3.elim
/-- d.get(k, x) -/
theorem g_dget2 (hu : X.A.units + 64 < cLine) (ha : PE X a (tE X.K ea W f)) (hb : PE X b (tE X.K ea W g)) (hc : PE X c (tE X.K ea W h)) (m : M2 X a "get" apos b c cpos := by exact ⟨rfl, rfl, rfl, rfl⟩) : PE X (.Call (.Attribute a "get" apos) [b, c] [] cpos) (tE X.K ea W (eGet2 f g h)) :=
  (pe_dget2 (by omega) ha hb hc m).weak fun σ H Q hq => by
    obtain ⟨H0, G, st, rl, a⟩ := hq
    refine ⟨H0, G, st, rl, aft_mono (aft_bind a) fun x G1 H1 e1 a1 v dv => ?_⟩
    obtain ⟨l, kvs, rfl, a2⟩ := aft_dic a1
    obtain ⟨p, rfl, hp⟩ := den_dic e1.s dv
    refine ⟨p, rfl, .inl ⟨_, hp⟩, H0, G1, st, rl.ext e1, aft_mono (aft_bind a2) fun y G2 H2 e2 a3 w dw => ?_⟩
    refine ⟨H0, G2, st, (rl.ext e1).ext e2, aft_mono (aft_bind a3) fun z G3 H3 e3 a4 u du => ?_⟩
    cases y with
    | int i =>
      cases z with
      | int j =>
        obtain ⟨p', e', hp2⟩ := den_dic e3.s ((dv.mono e2.g).mono e3.g)
        cases e'
        rw [dw.int_inv, du.int_inv]
        refine ⟨_, rd_get hp2 i, ?_⟩
        have e : ((dgetI kvs i).map V.int).getD (.int j) = .int ((dgetI kvs i).getD j) := by cases dgetI kvs i <;> rfl
        rw [e]
        exact a4 _ _ (Ext.refl e3.s) _ (.int _)
      | _ => exact a4.elim
    | _ => cases z <;> exact a4.elim
/-- for k in d, d locked -/
def keysL : D → Option (List D)
  | .dic true kvs => some (kvs.map fun p => .int p.1)
  | _ => none
theorem wd_keys {K : Fr} {G0 : Hp} {d : Addr} {o : Obj} {kvs : List (Int × Int)} (h : G0 d = some (.frz o (.dK (dkV kvs)))) : WalkD K (Itk d o (dkV kvs)) G0 (kvs.map fun p => .int p.1) where
  goes := fun i H hi e => ⟨e _ _ h, by unfold dkV; simpa using hi⟩
  stops := fun H e => ⟨e _ _ h, by unfold dkV; simp⟩
  yields := fun i G H x H' hi e0 e y => by
    obtain ⟨rfl, k, v, hk, rfl⟩ := y
    unfold dkV at hk
    rw [List.getElem?_map] at hk
    cases q : kvs[i]? with
    | none => rw [q] at hk; cases hk
    | some p =>
      rw [q] at hk
      cases hk
      exact ⟨G, .int p.1, by rw [List.getElem?_map, q]; rfl, Ext.refl e, .int _⟩
theorem gi_keys {tg : Expr} (hp : PE X a (tE X.K ea W f)) : PI X tg a (tI X.K ea W (iSeq keysL f)) := (pi_keys hp).weak fun σ H R hq => by
  obtain ⟨H0, G, st, rl, a⟩ := hq
  refine ⟨H0, G, st, rl, aft_mono (aft_bind a) fun x G1 H1 e1 a1 v dv => ?_⟩
  obtain ⟨z, ez, k⟩ := aft_of a1
  cases dv with
  | @dicL d o kvs hd =>
    cases ez
    exact ⟨d, o, rfl, .inl ⟨dkV kvs, e1.s _ _ hd, k G1 H1 (Ext.refl e1.s) _ (wd_keys hd)⟩⟩
  | _ => cases ez
/-- the store of a locked expression: the dict in slot i, and what is flat -/
def flatS : Slot → Slot
  | .dat d => if flatD d = true then .dat d else .un
  | _ => .un
def lockS (i : Nat) (st : Store) : Option Store := match st[i]? with
  | some (.dat (.dic false kvs)) => some ((st.map flatS).set i (.dat (.dic true kvs)))
  | some (.owd kvs) => some ((st.map flatS).set i (.dat (.dic true kvs)))
  | _ => none
theorem lockS_inv {K : Fr} {ea : Addr} {H0 G H : Hp} {σ : L2.St} {st st' : Store} {i : Nat} (rl : Rel K ea H0 G H σ st) (h : lockS i st = some st') : ∃ kvs p, st' = (st.map flatS).set i (.dat (.dic true kvs)) ∧ σ[i]? = some (some (.ref p)) ∧ H p = some (.dK (dkV kvs)) ∧ i < st.length := by
  unfold lockS at h
  cases hi : st[i]? with
  | none => rw [hi] at h; cases h
  | some sl =>
    have il : i < st.length := (List.getElem?_eq_some_iff.mp hi).1
    rw [hi] at h
    cases sl with
    | dat d =>
      cases d with
      | dic b kvs =>
        cases b with
        | true => cases h
        | false =>
          cases h
          obtain ⟨v, hv, dv⟩ := rl.dat i _ hi
          cases dv with
          | @dic p _ hp => exact ⟨kvs, p, rfl, hv, rl.s _ _ hp, il⟩
      | _ => cases h
    | owd kvs =>
      cases h
      obtain ⟨l, a, b, _⟩ := rl.ownD hi
      exact ⟨kvs, l, rfl, a, b, il⟩
    | _ => cases h
def flatL : D → R D
  | .lst xs => if xs.all flatD = true then .ok (.lst xs) else .no
  | _ => .no
def eLock (i : Nat) (f : ME) : ME := fun st => match lockS i st with
  | some st' => (f st').nr.bind flatL
  | none => .no
theorem dens_flatD {K : Fr} {G G' : Hp} : ∀ {vs : List V} {xs : List D}, Dens K G vs xs → xs.all flatD = true → Dens K G' vs xs
  | _, _, .nil, _ => .nil
  | _, _, .cons h r, e => by
    rw [List.all_cons, Bool.and_eq_true] at e
    exact .cons (ext_den_flat e.1 h) (dens_flatD r e.2)
theorem g_lock {i : Nat} (hp : PE X a (tE X.K ea W0 f)) : PE X a (tE X.K ea W (eLock i f)) := (pe_lock hp).weak fun σ H Q hq => by
  obtain ⟨H0, G, st, rl, q⟩ := hq
  unfold eLock at q
  cases hs : lockS i st with
  | none => rw [hs] at q; exact q.elim
  | some st' =>
    rw [hs] at q
    obtain ⟨kvs, p, rfl, hv, hpH, il⟩ := lockS_inv rl hs
    refine ⟨p, .dK (dkV kvs), hpH, trivial, fun od => ?_⟩
    have hne : ∀ {b o}, H b = some o → b ≠ p → upd H p (.frz od (.dK (dkV kvs))) b = some o := fun {b o} e n => by rw [upd_ne n]; exact e
    let G1 : Hp := fun b => if b = p then some (.frz od (.dK (dkV kvs))) else none
    have g1p : G1 p = some (.frz od (.dK (dkV kvs))) := if_pos rfl
    have g1n : ∀ b, b ≠ p → G1 b = none := fun b n => if_neg n
    have s1 : Ex G1 (upd H p (.frz od (.dK (dkV kvs)))) := fun b o e => by
      by_cases n : b = p
      · subst n
        rw [g1p] at e
        rw [upd_same]
        exact e
      · rw [g1n b n] at e
        cases e
    have rel1 : Rel X.K ea H0 G1 (upd H p (.frz od (.dK (dkV kvs)))) σ ((st.map flatS).set i (.dat (.dic true kvs))) := by
      refine ⟨s1, by rw [List.length_set, List.length_map]; exact rl.len, fun j z => ?_, fun j d z => ?_, fun j s z m => ?_, fun j l s t a z m => ?_⟩
      · rcases set_cases z with ⟨rfl, _, e⟩ | ⟨n, z⟩
        · cases e
        · rw [List.getElem?_map] at z
          cases w : st[j]? with
          | none => rw [w] at z; cases z
          | some s =>
            rw [w] at z
            cases s with
            | dat d =>
              have z : some (if flatD d = true then Slot.dat d else .un) = some Slot.exc := z
              split at z <;> cases z
            | _ => cases z
      · rcases set_cases z with ⟨rfl, _, e⟩ | ⟨n, z⟩
        · cases e
          exact ⟨_, hv, .dicL g1p⟩
        · rw [List.getElem?_map] at z
          cases w : st[j]? with
          | none => rw [w] at z; cases z
          | some s =>
            rw [w] at z
            cases s with
            | dat d' =>
              have z : some (if flatD d' = true then Slot.dat d' else .un) = some (Slot.dat d) := z
              split at z
              · rename_i hf
                cases z
                obtain ⟨u, a, b⟩ := rl.dat j _ w
                exact ⟨u, a, ext_den_flat hf b⟩
              · cases z
            | _ => cases z
      · exfalso
        rcases set_cases z with ⟨rfl, _, e⟩ | ⟨n, z⟩
        · subst e; cases m
        · rw [List.getElem?_map] at z
          cases w : st[j]? with
          | none => rw [w] at z; cases z
          | some s' =>
            rw [w] at z
            cases s' with
            | dat d' =>
              have z : some (if flatD d' = true then Slot.dat d' else .un) = some s := z
              split at z <;> cases z <;> cases m
            | _ => cases z; cases m
      · exfalso
        rcases set_cases z with ⟨rfl, _, e⟩ | ⟨n, z⟩
        · subst e; cases m
        · rw [List.getElem?_map] at z
          cases w : st[j]? with
          | none => rw [w] at z; cases z
          | some s' =>
            rw [w] at z
            cases s' with
            | dat d' =>
              have z : some (if flatD d' = true then Slot.dat d' else .un) = some s := z
              split at z <;> cases z <;> cases m
            | _ => cases z; cases m
    refine ⟨H0, G1, _, rel1, ?_⟩
    cases hr : f ((st.map flatS).set i (.dat (.dic true kvs))) with
    | no => simp only [hr] at q; exact q.elim
    | rs c => simp only [hr] at q; exact q.elim
    | ok d =>
      simp only [hr] at q
      intro G2 H2 e2 u du
      cases d with
      | lst xs =>
        have q' : aft X.K W σ G H (if xs.all flatD = true then R.ok (D.lst xs) else .no) (fun d G' H' => ∀ v, Den X.K G' v d → Q v H') := q
        split at q'
        · rename_i hf
          cases du with
          | @lst l vs _ hl hd =>
            have lp : l ≠ p := fun z => by
              subst z
              have := e2.g _ _ g1p
              rw [this] at hl
              cases hl
            have hln : H l = none := by
              have := e2.n l _ hl (g1n l lp)
              rw [upd_ne lp] at this
              exact this
            have h2p : H2 p = some (.frz od (.dK (dkV kvs))) := e2.h _ _ upd_same
            refine ⟨h2p, q' (upd G l (.lst vs)) (upd H2 p (.dK (dkV kvs))) ⟨Ex.new (rl.s.back hln), fun b o e => ?_, fun b o e => ?_, fun b o e n => ?_⟩ _ (.lst upd_same (dens_flatD hd hf))⟩
            · by_cases n : b = p
              · subst n
                rw [upd_same, ← e]
                exact hpH.symm
              · rw [upd_ne n]
                exact e2.h _ _ (by rw [upd_ne n]; exact e)
            · by_cases nl : b = l
              · subst nl
                rw [upd_same] at e
                cases e
                rw [upd_ne lp]
                exact e2.s _ _ hl
              · rw [upd_ne nl] at e
                have e' := rl.s _ _ e
                by_cases n : b = p
                · subst n
                  rw [upd_same, ← e']
                  exact hpH.symm
                · rw [upd_ne n]
                  exact e2.h _ _ (by rw [upd_ne n]; exact e')
            · by_cases nl : b = l
              · rw [nl]
                exact hln
              · rw [upd_ne nl, n] at e
                cases e
        · exact q'.elim
      | _ => exact q.elim
/-- sorted(d) -/
def sortDB : List D → Option D
  | [.dic _ kvs] => if kvs.length < 64 then some (.lst ((sortI (kvs.map (·.1))).map D.int)) else none
  | _ => none
def rSortD (H : Hp) (xs : List V) (Q : VK) : Prop := ∃ (a : Addr) (kvs : List (Key × V)) (ks : List Int), xs = [.ref a] ∧ Rd H a (.dK kvs) ∧ kvs.map (·.1) = ks.map Sum.inl ∧ ks.length < 64 ∧
    ∀ (ys : List Int) (p : Addr), ys.Perm ks → ys.Pairwise (· ≤ ·) → H p = none → Q (.ref p) (upd H p (.lst (ys.map V.int)))
theorem cr_sortD (hc : X.calm = true) : CallR X (.builtin "sorted") (fun xs H Q => rSortD H xs Q) := call_sortedDI hc
theorem ok_sortD {K : Fr} : OpN K (fun xs H Q => rSortD H xs Q) sortDB := by
  intro G H vs xs z Q s d e k
  match xs, e with
  | [.dic b kvs], e =>
    simp only [sortDB] at e
    split at e
    · rename_i hl
      cases e
      obtain ⟨v, rfl, dv⟩ := one_inv d
      obtain ⟨p, rfl, hp⟩ := den_dic s dv
      refine ⟨p, dkV kvs, kvs.map (·.1), rfl, hp, by unfold dkV; simp, by simpa using hl, fun ys q h1 h2 hq => ?_⟩
      have : ys = sortI (kvs.map (·.1)) := PySem.W.ksm_same (h1.trans (sortI_perm _).symm) h2 (sortI_sorted _)
      subst this
      have ex := Ext.new (G := G) (H := H) (p := q) (o := .lst ((sortI (kvs.map (·.1))).map V.int)) s hq
      exact k _ _ _ ex (.lst upd_same (dens_ints _))
    · cases e
end
/-! ### d[k] = v, d the def's own -/
def putTo (i : Nat) (k v : D) (st : Store) : RS := match k, v with
  | .int k, .int v => (match st[i]? with
    | some (.owd kvs) => if kvs.length < 100000 then .nx (st.set i (.owd (putI kvs k v))) else .no
    | _ => .no)
  | _, _ => .no
def ifOwd (i : Nat) (st : Store) (r : RS) : RS := match st[i]? with
  | some (.owd _) => r
  | _ => .no
def mPut (i : Nat) (fk fv : ME) : MS := fun st => ifOwd i st ((fv (thaw st)).thn st fun v => (fk (thaw st)).thn st fun k => putTo i k v st)
section
variable {X : Cx} {K : Fr} {ea : Addr} {W : WX} {e e2 : Expr} {f fk : ME} {pos : Pos}
theorem if_owd {D : Ends} {G0 H0 G H : Hp} {σ : L2.St} {st : Store} {i : Nat} {r : RS} (rl : Rel K ea H0 G H σ st) (k : aftS K ea W G0 H0 D (ifOwd i st r)) : (∃ l, σ[i]? = some (some (.ref l))) ∧ aftS K ea W G0 H0 D r := by
  unfold ifOwd at k
  cases q : st[i]? with
  | none => rw [q] at k; exact k.elim
  | some s =>
    rw [q] at k
    cases s with
    | owd kvs =>
      obtain ⟨l, a, b, _⟩ := rl.ownD q
      exact ⟨⟨l, a⟩, k⟩
    | _ => exact k.elim
theorem tS_put {i : Nat} {k v : D} {D : Ends} {G0 H0 G H : Hp} {σ : L2.St} {st : Store} {l : Addr} {G1 G2 : Hp} {u w : V} (x : Ext G0 H0 G H) (rl : Rel K ea H0 G H σ st) (dk : Den K G1 w k) (dv : Den K G2 u v) (p : σ[i]? = some (some (.ref l))) (q : aftS K ea W G0 H0 D (putTo i k v st)) :
    ∃ H4, DPut H l w u H4 ∧ D.nx σ H4 := by
  unfold putTo at q
  cases k with
  | int k =>
    cases v with
    | int v =>
      simp only at q
      cases z : st[i]? with
      | none => rw [z] at q; exact q.elim
      | some s =>
        rw [z] at q
        cases s with
        | owd kvs =>
          simp only at q
          split at q
          · rename_i hl
            obtain ⟨l', a1, b1, d1, e1⟩ := rl.ownD z
            rw [p] at a1
            cases a1
            rw [dk.int_inv, dv.int_inv]
            refine ⟨_, DPut.k (k := .inl k) (v := .int v) b1 (szl' (by unfold dkV; simpa using hl)), ?_⟩
            rw [put_dkV]
            refine q G _ σ ⟨x.g, fun a o z => ?_, fun a o z => ?_, x.n⟩ (rl.mutG (a' := .owd (putI kvs k v)) (o' := .dK (dkV (putI kvs k v))) z rfl p rfl)
            · rw [upd_ne (ne_of_none z e1)]
              exact x.h a o z
            · rw [upd_ne (ne_of_none z d1)]
              exact x.s a o z
          · exact q.elim
        | _ => exact q.elim
    | _ => exact q.elim
  | _ => cases v <;> exact q.elim
theorem gs_put {i : Nat} {x : Str} {p p2 : Pos} (hu : X.A.units + 64 < cLine) (hN : X.N[i]? = some x) (hv : Vis X.env.scope x) (hk : PE X e2 (tE X.K ea W fk)) (he : PE X e (tE X.K ea W f)) (hd : (x == ("__debug__" : Str)) = false := by decide) (hcd : (x == ("__classdict__" : Str)) = false := by decide)
    (hs : swapsWith e (some (.Subscript (.Name x p) e2 p2)) pos.line X.env = pure false := by rfl) :
    PS X (.Assign [.Subscript (.Name x p) e2 p2] e pos) (tS X.K ea W (mPut i fk f)) :=
  (ps_dput (by omega) (pe_var hN hv hd hcd) hk he hs).weak fun D σ H h => by
    obtain ⟨G0, H0, G, st, x, rl, k⟩ := h
    obtain ⟨⟨l, p⟩, k⟩ := if_owd rl k
    obtain ⟨G', x', _, rl'⟩ := rl.thaw x
    refine ⟨H0, G', thaw st, rl', aft_mono (aftS_thaw x rl k) fun d G1 H1 e1 k1 v dv => ?_⟩
    have x2 := x.trans (Ext.top rl.s e1.h)
    have r2 := rl.ext (Ext.top rl.s e1.h)
    obtain ⟨G2, x3, _, rl3⟩ := r2.thaw x2
    refine ⟨.ref l, p, H0, G2, thaw st, rl3, aft_mono (aftS_thaw x2 r2 k1) fun d2 G3 H3 e3 k2 w dw => ?_⟩
    have x4 := x2.trans (Ext.top r2.s e3.h)
    have r4 := r2.ext (Ext.top r2.s e3.h)
    obtain ⟨H4, h1, h2⟩ := tS_put x4 r4 dw dv p k2
    exact ⟨l, H4, rfl, h1, h2⟩
/-! ### {k: v}, a dict of the def's own, in a parallel assignment -/
def qOwd (fk fv : ME) (g : MQ) : MQ := fun st => (fk st).bind fun k => (fv st).bind fun v => match k, v with
  | .int k, .int v => (g st).bind fun ss => .ok (.owd [(k, v)] :: ss)
  | _, _ => .no
theorem tQ_owd {fk fv : ME} {g : MQ} : ∀ σ H Q, tQ K ea W (qOwd fk fv g) σ H Q → tCons (tDisp [(tE K ea W fk, tE K ea W fv)]) (tQ K ea W g) σ H Q := fun σ H Q h => by
  obtain ⟨G0, H0, G, st, vs0, ss0, x, hl, rl, k⟩ := h
  intro p hp
  have ex : Ext G H G (upd H p (.dK [])) := Ext.newH rl.s hp
  have rp := Rel.pushOwnG (a := .owd []) (o := .dK []) rl hp (x.h.back hp) rfl
  have r0 := (rl.left hl).ext ex
  unfold qOwd at k
  refine ⟨H0, G, st, r0, ?_⟩
  cases z : fk st with
  | no => rw [z] at k; exact k
  | rs c => rw [z] at k; exact fun G' H' e => k G' H' (x.trans (ex.trans e)) (r0.ext e)
  | ok kd =>
    simp only [z, R.bind] at k
    intro G1 H1 e1 w dw
    refine ⟨H0, G1, st, r0.ext e1, ?_⟩
    cases z2 : fv st with
    | no => simp only [z2] at k; exact k
    | rs c => simp only [z2] at k; exact fun G' H' e => k G' H' (x.trans (ex.trans (e1.trans e))) ((r0.ext e1).ext e)
    | ok vd =>
      simp only [z2] at k
      intro G2 H2 e2 u du
      cases kd with
      | int kk =>
        cases vd with
        | int vv =>
          simp only at k
          rw [dw.int_inv, du.int_inv]
          have rq := (rp.ext e1).ext e2
          have h2p : H2 p = some (.dK []) := e2.h _ _ (e1.h _ _ upd_same)
          refine ⟨h2p, [(.inl kk, .int vv)], rfl, by simp, ?_⟩
          have hn : ((st ++ ss0) ++ [Slot.owd []])[(st ++ ss0).length]? = some (.owd []) := by rw [List.getElem?_append_right (Nat.le_refl _), Nat.sub_self]; rfl
          have hs : ((σ ++ vs0.map some) ++ [some (V.ref p)])[(st ++ ss0).length]? = some (some (V.ref p)) := by rw [rl.len, List.getElem?_append_right (Nat.le_refl _), Nat.sub_self]; rfl
          have rm := rq.mutG (a' := .owd [(kk, vv)]) (o' := .dK (dkV [(kk, vv)])) hn rfl hs rfl
          have es : ((st ++ ss0) ++ [Slot.owd []]).set (st ++ ss0).length (.owd [(kk, vv)]) = (st ++ ss0) ++ [Slot.owd [(kk, vv)]] := by rw [List.set_append_right _ _ (Nat.le_refl _), Nat.sub_self]; rfl
          rw [es] at rm
          have xx : Ext G0 H0 G2 (upd H2 p (.dK (dkV [(kk, vv)]))) := by
            have x3 := x.trans (ex.trans (e1.trans e2))
            have g2 : G2 p = none := by
              cases q : G2 p with
              | none => rfl
              | some o =>
                have g1 : G1 p = none := by
                  cases q1 : G1 p with
                  | none => rfl
                  | some o1 =>
                    have := e1.n p o1 q1 (rl.s.back hp)
                    rw [upd_same] at this
                    cases this
                have := e2.n p o q g1
                rw [e1.h _ _ upd_same] at this
                cases this
            refine ⟨x3.g, fun a o e => ?_, fun a o e => ?_, x3.n⟩
            · rw [upd_ne (ne_of_none e (x.h.back hp))]
              exact x3.h a o e
            · rw [upd_ne (ne_of_none e g2)]
              exact x3.s a o e
          show tQ K ea W g σ (upd H2 p (.dK (dkV [(kk, vv)]))) fun vs H => Q (.ref p :: vs) H
          refine ⟨G0, H0, G2, st, vs0 ++ [.ref p], ss0 ++ [.owd [(kk, vv)]], xx, hl, ?_, ?_⟩
          · rw [List.map_append, ← List.append_assoc, ← List.append_assoc]
            exact rm
          · cases z3 : g st with
            | no => simp only [z3] at k; exact k
            | rs c => simp only [z3] at k; exact k
            | ok ss =>
              simp only [z3] at k
              intro vs G3 H3 e3 hv r3
              refine k (.ref p :: vs) G3 H3 e3 (by simp [hv]) ?_
              rw [List.append_assoc, List.append_assoc] at r3
              exact r3
        | _ => exact k.elim
      | _ => cases vd <;> exact k.elim
theorem gq_owd {es : List Expr} {q : Pos} {fv : ME} {g : MQ} (hk : PE X e2 (tE X.K ea W fk)) (he : PE X e (tE X.K ea W fv)) (hr : PA X es (tQ X.K ea W g)) (hs : starEach (.Dict [some e2] [e] q :: es) X.env = (false, eval (.Dict [some e2] [e] q) X.env) :: starEach es X.env := by rfl) :
    PA X (.Dict [some e2] [e] q :: es) (tQ X.K ea W (qOwd fk fv g)) := (pa_cons (pe_disp (pps_cons hk he pps_nil) rfl rfl (by simp) (by simp)) hr hs).weak tQ_owd
end
end Pg

namespace Pg
open PySem PySem.Spec PyProof.Rows L2
/-! ### list(range(a, b, c)) -/
def rg3n (a b c : Int) : Nat := if a < b then ((b - a - 1) / c + 1).toNat else 0
def rg3L (a b c : Int) : List Int := (List.range (rg3n a b c)).map fun i => a + (i : Nat) * c
def rg3B : List D → Option D
  | [.int a, .int b, .int c] => if (0 ≤ a ∧ a ≤ 100000) ∧ (0 ≤ b ∧ b ≤ 100000) ∧ 1 ≤ c ∧ c ≤ 100000 then some (.lst ((rg3L a b c).map D.int)) else none
  | _ => none
theorem rg3_size {a b c : Int} (hc : 1 ≤ c) : Builtin.Range.rangeSize a b c = (rg3n a b c : Int) := by
  unfold Builtin.Range.rangeSize rg3n
  rw [if_pos (by omega)]
  split
  · have := Int.ediv_nonneg (a := b - a - 1) (b := c) (by omega) (by omega)
    omega
  · rfl
theorem rg3_le {a b c : Int} (hc : 1 ≤ c) (h0 : 0 ≤ a) (hb : b ≤ 100000) : rg3n a b c ≤ 100000 := by
  unfold rg3n
  split
  · have := Int.ediv_le_self c (show (0 : Int) ≤ b - a - 1 by omega)
    omega
  · omega
theorem rg3_small {a b c : Int} (ha : 0 ≤ a ∧ a ≤ 100000) (hb : 0 ≤ b ∧ b ≤ 100000) (hc : 1 ≤ c ∧ c ≤ 100000) : Builtin.Range.small a b c = true := by
  have h1 := rg3_le hc.1 ha.1 hb.2
  unfold Builtin.Range.small
  rw [rg3_size hc.1]
  have h2 : (rg3n a b c : Int) * c ≤ 100000 * 100000 := Int.mul_le_mul (by omega) hc.2 (by omega) (by omega)
  have h3 : 0 ≤ (rg3n a b c : Int) * c := Int.mul_nonneg (by omega) (by omega)
  simp only [Builtin.Range.rangeFitsLong, Bool.and_eq_true, Bool.or_eq_true, decide_eq_true_eq, beq_iff_eq, show c > 0 by omega, if_true]
  omega
def tRg3 (ta : TA) : TE := fun σ H Q => ta σ H fun vs H1 => ∃ a b c : Int, vs = [.int a, .int b, .int c] ∧ (0 ≤ a ∧ a ≤ 100000) ∧ (0 ≤ b ∧ b ≤ 100000) ∧ (1 ≤ c ∧ c ≤ 100000) ∧ ∀ q, H1 q = none → Q (.ref q) (upd H1 q (.lst ((rg3L a b c).map V.int)))
theorem vals_rg3 {a c : Int} {n : Nat} {acc : Array Value} (h : ItemsOf (fun i v => ∃ t, v = .int (a + i * c) t) acc n) : Vals ((List.range n).map fun i => V.int (a + (i : Nat) * c)) acc.toList := by
  have e : acc.toList.length = n := by rw [Array.length_toList]; exact h.1
  rw [← e]
  refine vals_of_get acc.toList _ fun j u hj => ?_
  obtain ⟨t, rfl⟩ := h.2 j u (by rw [← hj, Array.getElem?_toList])
  exact ⟨t, rfl⟩
section
variable {X : Cx} {ea : Addr} {W : WX} {a b c : Expr} {g : MA} {p p1 p2 pos : Pos}
theorem pe_lrg3 {ta : TA} (hc : X.calm = true) (hg : Gl X "list") (hm : X.mg "list" = none) (hg2 : Gl X "range") (hm2 : X.mg "range" = none) (ha : PA X [a, b, c] ta)
    (hs : starEach [a, b, c] X.env = (false, eval a X.env) :: starEach [b, c] X.env) (hpl : (backTo p2 (starEach [b, c] X.env)).any (·.1) = false)
    (nb : starEach [.Call (.Name "range" p1) [a, b, c] [] p2] X.env = (false, eval (.Call (.Name "range" p1) [a, b, c] [] p2) X.env) :: starEach [] X.env) : PE X (.Call (.Name "list" p) [.Call (.Name "range" p1) [a, b, c] [] p2] [] pos) (tRg3 ta) := by
  refine ⟨fun pins s σ H Q I h => ?_⟩
  refine Call_ (ld_blt I hg hm boot_list (PyProof.Rows.callWith_type1 (args_cons ?_ nb) nb))
  refine Call_ (ld_blt I hg2 hm2 boot_range (PyProof.Rows.callWith_type1 (thn (ha.run p2 pins s σ H _ I h) fun us s1 ⟨vs, H1, I1, r1, q1⟩ => ?_) hs hpl))
  obtain ⟨i, j, k, e, hi, hj, hk, q⟩ := q1
  subst e
  cases r1 with
  | cons r rr =>
    cases rr with
    | cons r' rr =>
      cases rr with
      | cons r'' rr =>
        cases rr
        obtain ⟨t, rfl⟩ := r
        obtain ⟨t', rfl⟩ := r'
        obtain ⟨t'', rfl⟩ := r''
        refine call_range_3 (by omega) ?_ (.inl (PyProof.noPylong_small (by omega)))
        refine args_nil ?_
        have I2 : Inv X pins σ H1 { s1 with heap := s1.heap.push { cls := .type "range", data := .fields #[.int i t, .int j t', .int k t''] } } := I1.kept (t' := s1.toks) fun b o e => Heap.get?_push_of_some _ e
        refine call_list_range (n := rg3n i j k) (I2.ok.hd hc) (IsRange.new _ _ _ _ _ _ _) (rg3_small hi hj hk) (rg3_size hk.1) (Nat.le_trans (rg3_le hk.1 hi.1 hj.2) (by decide)) fun h' tk acc c' hk' e' hit => ?_
        have hl : ((rg3L i j k).map V.int).length ≤ sizeLine := by
          unfold rg3L
          rw [List.length_map, List.length_map, List.length_range]
          exact szl (rg3_le hk.1 hi.1 hj.2)
        have hv : Vals ((rg3L i j k).map V.int) acc.toList := by
          unfold rg3L
          rw [List.map_map]
          exact vals_rg3 hit
        refine ⟨.ref _, upd H1 _ (.lst ((rg3L i j k).map V.int)), I2.laid hk' (Nat.le_refl _) (show ObjOk X.prog X.w _ _ _ (.lst ((rg3L i j k).map V.int)) from ⟨hl, acc.toList, c', hv, ?_⟩), rfl, q _ (I2.hok.fresh (Nat.le_refl _))⟩
        rw [Array.toArray_toList]
        exact e'
theorem g_lrg3 (hc : X.calm = true) (hm : X.mg "list" = none) (hm2 : X.mg "range" = none) (ha : PA X [a, b, c] (tA X.K ea W g)) (hg : Gl X "list" := by rfl) (hg2 : Gl X "range" := by rfl)
    (hs : starEach [a, b, c] X.env = (false, eval a X.env) :: starEach [b, c] X.env := by rfl) (hpl : (backTo p2 (starEach [b, c] X.env)).any (·.1) = false := by rfl)
    (nb : starEach [.Call (.Name "range" p1) [a, b, c] [] p2] X.env = (false, eval (.Call (.Name "range" p1) [a, b, c] [] p2) X.env) :: starEach [] X.env := by rfl) : PE X (.Call (.Name "list" p) [.Call (.Name "range" p1) [a, b, c] [] p2] [] pos) (tE X.K ea W (bcall rg3B g)) :=
  (pe_lrg3 hc hg hm hg2 hm2 ha hs hpl nb).weak fun σ H Q hq => by
    obtain ⟨H0, G, st, rl, a⟩ := hq
    refine ⟨H0, G, st, rl, aft_mono (aft_bind a) fun xs G1 H1 e1 a1 vs dvs => ?_⟩
    obtain ⟨z, ez, k⟩ := aft_of a1
    match xs, ez with
    | [.int i, .int j, .int l], ez =>
      simp only [rg3B] at ez
      split at ez
      · rename_i hn
        cases ez
        have e : vs = [.int i, .int j, .int l] := Dens.ints_inv (ns := [i, j, l]) dvs
        refine ⟨i, j, l, e, hn.1, hn.2.1, hn.2.2, fun q hq => ?_⟩
        have ex := Ext.new (G := G1) (H := H1) (p := q) (o := .lst ((rg3L i j l).map V.int)) e1.s hq
        exact k _ _ ex _ (.lst upd_same (dens_ints _))
      · cases ez
end
end Pg

namespace Pg
open PySem L2
/-! ### reckoning with the readings -/
section
variable {α β : Type} {st st' : Store} {f g h : ME} {t u : MT} {a b : MS} {x y z d : D}
@[simp] theorem bind_ok (x : α) (g : α → R β) : (R.ok x).bind g = g x := rfl
@[simp] theorem bind_rs (c : Str) (g : α → R β) : (R.rs c : R α).bind g = .rs c := rfl
@[simp] theorem bind_no (g : α → R β) : (R.no : R α).bind g = .no := rfl
@[simp] theorem of_some (x : α) : R.of (some x) = .ok x := rfl
@[simp] theorem nr_ok (x : α) : (R.ok x).nr = .ok x := rfl
@[simp] theorem thn_ok (st : Store) (x : α) (g : α → RS) : (R.ok x).thn st g = g x := rfl
@[simp] theorem thn_rs (st : Store) (c : Str) (g : α → RS) : (R.rs c : R α).thn st g = .rs c st := rfl
@[simp] theorem eVar_eq (i : Nat) (st : Store) : eVar i st = match st[i]? with
  | some (.dat d) => .ok d
  | _ => .no := rfl
@[simp] theorem eC_eq (d : D) (st : Store) : eC d st = .ok d := rfl
@[simp] theorem bin_eq (op : D → D → Option D) : bin op f g st = (f st).bind fun x => (g st).bind fun y => R.of (op x y) := rfl
@[simp] theorem unr_eq (op : D → Option D) : unr op f st = (f st).bind fun x => R.of (op x) := rfl
@[simp] theorem aNil_eq : aNil st = .ok [] := rfl
@[simp] theorem aCons_eq (r : MA) : aCons f r st = (f st).bind fun x => (r st).bind fun xs => .ok (x :: xs) := rfl
@[simp] theorem bcall_eq (op : List D → Option D) (r : MA) : bcall op r st = (r st).bind fun xs => R.of (op xs) := rfl
@[simp] theorem asB_bl (b : Bool) : asB (.bl b) = some b := rfl
@[simp] theorem mVal_eq : mVal f st = (f st).bind fun x => R.of (asB x) := rfl
@[simp] theorem mAnd_eq : mAnd t u st = (t st).bind fun b => if b = true then u st else .ok false := rfl
@[simp] theorem mOr_eq : mOr t u st = (t st).bind fun b => if b = true then .ok true else u st := rfl
@[simp] theorem mNot_eq : mNot t st = (t st).bind fun b => .ok (!b) := rfl
@[simp] theorem mYes_eq : mYes st = .ok true := rfl
@[simp] theorem vAnd_eq : vAnd f g st = (f st).bind fun x => (R.of (asB x)).bind fun b => if b = true then g st else .ok (.bl false) := rfl
@[simp] theorem vOr_eq : vOr f g st = (f st).bind fun x => (R.of (asB x)).bind fun b => if b = true then .ok (.bl true) else g st := rfl
@[simp] theorem vNot_eq : vNot f st = (f st).bind fun x => (R.of (asB x)).bind fun b => .ok (.bl (!b)) := rfl
@[simp] theorem eIf_eq : eIf t f g st = (t st).bind fun b => if b = true then f st else g st := rfl
@[simp] theorem eChn_eq (o o' : D → D → Option D) : eChn o o' f g h st = (f st).bind fun x => (g st).bind fun y => (R.of (o x y)).bind fun z => (R.of (asB z)).bind fun b => if b = true then (h st).bind fun w => R.of (o' y w) else .ok (.bl false) := rfl
@[simp] theorem eCall_eq (n : Nat) (F : List D → R D) (r : MA) : eCall n F r st = (r st).bind fun ds => if ds.length = n then F ds else .no := rfl
@[simp] theorem eTup_eq (r : MA) : eTup r st = (r st).bind fun xs => if xs.length ≤ 100000 then .ok (.tup xs) else .no := rfl
@[simp] theorem eLst_eq (r : MA) : eLst r st = (r st).bind fun xs => if xs.length ≤ 100000 then .ok (.lst xs) else .no := rfl
@[simp] theorem eIsi_eq (T : String) : eIsi T f st = (f st).bind fun x => R.of (isiD T x) := rfl
@[simp] theorem oNone_eq : oNone st = .ok none := rfl
@[simp] theorem oSome_eq : oSome f st = (f st).bind fun x => R.of (asInt x) := rfl
@[simp] theorem asInt_int (i : Int) : asInt (.int i) = some (some i) := rfl
@[simp] theorem eSl_eq (l h : MO) : eSl f l h st = (f st).bind fun x => (l st).bind fun lo => (h st).bind fun hi => R.of (slD x lo hi) := rfl
@[simp] theorem iSeq_eq (sel : D → Option (List D)) : iSeq sel f st = (f st).bind fun d => R.of (sel d) := rfl
@[simp] theorem iArg_eq (sel : List D → Option (List D)) (r : MA) : iArg sel r st = (r st).bind fun d => R.of (sel d) := rfl
@[simp] theorem lstD_lst (xs : List D) : lstD (.lst xs) = some xs := rfl
@[simp] theorem tupD_tup (xs : List D) : tupD (.tup xs) = some xs := rfl
@[simp] theorem mNx_eq : mNx st = .nx st := rfl
@[simp] theorem mSeq_eq : mSeq a b st = match a st with
  | .nx st => b st
  | r => r := rfl
@[simp] theorem mRet_eq : mRet f st = (f (thaw st)).thn st fun d => .rt d := rfl
@[simp] theorem mDrop_eq : mDrop f st = (f (thaw st)).thn st fun _ => .nx st := rfl
@[simp] theorem mIf_eq : mIf t a b st = (t (thaw st)).thn st fun k => if k = true then a st else b st := rfl
@[simp] theorem mSet_eq (i : Nat) : mSet i f st = (f st).thn st fun d => .nx (st.set i (.dat d)) := rfl
@[simp] theorem mRaise_eq (c : Str) : mRaise c st = .rs c st := rfl
@[simp] theorem mFrz_eq (i : Nat) : mFrz i a st = a (frz i st) := rfl
@[simp] theorem thaw_nil : thaw [] = [] := rfl
@[simp] theorem thaw_cons (s : Slot) (st : Store) : thaw (s :: st) = thaw1 s :: thaw st := rfl
@[simp] theorem thaw1_un : thaw1 .un = .un := rfl
@[simp] theorem thaw1_dat (d : D) : thaw1 (.dat d) = .dat d := rfl
@[simp] theorem thaw1_exc : thaw1 .exc = .exc := rfl
@[simp] theorem thaw1_own (xs : List D) : thaw1 (.own xs) = .dat (.lst xs) := rfl
/-! operators on numbers -/
@[simp] theorem add_int (i j : Int) : addD (.int i) (.int j) = some (.int (i + j)) := rfl
@[simp] theorem sub_int (i j : Int) : subD (.int i) (.int j) = some (.int (i - j)) := rfl
@[simp] theorem lt_int (i j : Int) : ltD (.int i) (.int j) = some (.bl (decide (i < j))) := rfl
@[simp] theorem le_int (i j : Int) : leD (.int i) (.int j) = some (.bl (decide (i ≤ j))) := rfl
@[simp] theorem gt_int (i j : Int) : gtD (.int i) (.int j) = some (.bl (decide (j < i))) := rfl
@[simp] theorem ge_int (i j : Int) : geD (.int i) (.int j) = some (.bl (decide (j ≤ i))) := rfl
@[simp] theorem neg_int (i : Int) : negD (.int i) = some (.int (-i)) := rfl
theorem mul_r {i j : Int} (h1 : -18446744073709551616 < j) (h2 : j < 18446744073709551616) : mulD (.int i) (.int j) = some (.int (i * j)) := by
  show (if _ then _ else _) = _
  rw [if_pos (.inr ⟨by omega, by omega⟩)]
theorem mul_l {i j : Int} (h1 : -18446744073709551616 < i) (h2 : i < 18446744073709551616) : mulD (.int i) (.int j) = some (.int (i * j)) := by
  show (if _ then _ else _) = _
  rw [if_pos (.inl ⟨by omega, by omega⟩)]
theorem fdiv_p {i j : Int} (h1 : 0 < j) (h2 : j < 1267650600228229401496703205376) : fdivD (.int i) (.int j) = some (.int (i / j)) := by
  show (if _ then _ else _) = _
  rw [if_pos ⟨h1, by omega⟩]
theorem mod_p {i j : Int} (h1 : 0 < j) : modD (.int i) (.int j) = some (.int (i % j)) := by
  show (if _ then _ else _) = _
  rw [if_pos h1]
@[simp] theorem eq_int (i j : Int) : eqD (.int i) (.int j) = some (.bl (decide (i = j))) := by
  unfold eqD
  rw [if_pos ⟨rfl, rfl⟩]
  show some (D.bl (PyData.eqv (.int i) (.int j))) = _
  unfold PyData.eqv
  rw [Bool.beq_eq_decide_eq]
@[simp] theorem ne_int (i j : Int) : neD (.int i) (.int j) = some (.bl (!decide (i = j))) := by
  unfold neD
  rw [if_pos ⟨rfl, rfl⟩]
  show some (D.bl (!PyData.eqv (.int i) (.int j))) = _
  unfold PyData.eqv
  rw [Bool.beq_eq_decide_eq]
/-! lists of numbers -/
def Ls (ns : List Int) : D := .lst (ns.map D.int)
theorem okd_ints (n : Nat) (ns : List Int) : (ns.map D.int).all (okd (n + 1)) = true := by
  induction ns with
  | nil => rfl
  | cons i r ih => rw [List.map_cons, List.all_cons, ih]; rfl
theorem eqv_all (xs ys : List Int) : PyData.eqvAll (toPs (xs.map D.int)) (toPs (ys.map D.int)) = decide (xs = ys) := by
  induction xs generalizing ys with
  | nil => cases ys <;> (simp only [List.map_nil, List.map_cons, toPs, PyData.eqvAll]; simp)
  | cons i r ih =>
    cases ys with
    | nil => simp only [List.map_nil, List.map_cons, toPs, PyData.eqvAll]; simp
    | cons j q =>
      simp only [List.map_cons, toPs, PyData.eqvAll, toP, PyData.eqv, ih]
      by_cases h : i = j
      · by_cases h2 : r = q <;> simp [h, h2]
      · simp [h]
theorem eqv_Ls (xs ys : List Int) : eqv (Ls xs) (Ls ys) = decide (xs = ys) := by
  show PyData.eqv (toP (.lst _)) (toP (.lst _)) = _
  simp only [toP, PyData.eqv]
  exact eqv_all xs ys
@[simp] theorem okd_Ls (n : Nat) (xs : List Int) : okd (n + 2) (Ls xs) = true := okd_ints n xs
@[simp] theorem eq_Ls (xs ys : List Int) : eqD (Ls xs) (Ls ys) = some (.bl (decide (xs = ys))) := by
  unfold eqD
  rw [if_pos ⟨okd_Ls 4 xs, okd_Ls 4 ys⟩, eqv_Ls]
@[simp] theorem ne_Ls (xs ys : List Int) : neD (Ls xs) (Ls ys) = some (.bl (!decide (xs = ys))) := by
  unfold neD
  rw [if_pos ⟨okd_Ls 4 xs, okd_Ls 4 ys⟩, eqv_Ls]
theorem atI_int {ns : List Int} {i : Int} {m : Int} (h : atI ns i = some m) : ixD (Ls ns) (.int i) = some (.int m) := by
  show atI (ns.map D.int) i = _
  rw [atI_map, h]; rfl
end
/-- 0, 1, .. below n -/
def iota (n : Int) : List Int := (List.range n.toNat).map fun i => ((i : Nat) : Int)
theorem mem_iota {n k : Int} : k ∈ iota n ↔ 0 ≤ k ∧ k < n := by
  unfold iota
  simp only [List.mem_map, List.mem_range]
  constructor
  · rintro ⟨i, hi, rfl⟩
    omega
  · rintro ⟨h0, h1⟩
    exact ⟨k.toNat, by omega, by omega⟩
theorem iota_length (n : Int) : (iota n).length = n.toNat := by unfold iota; simp
theorem rangeI_iota (n : Int) : rangeI 0 n.toNat = (iota n).map D.int := by
  unfold rangeI iota
  rw [List.map_map]
  apply List.map_congr_left
  intro i _
  simp
theorem iota_get {n : Int} {k : Nat} (h : (k : Int) < n) : (iota n)[k]? = some (k : Int) := by
  unfold iota
  rw [List.getElem?_map, List.getElem?_range (by omega)]
  rfl
/-- a comprehension -/
theorem compGo_of {b : D → Store → Option Store} {c : MT} {e : ME} {st : Store} {p : D → Bool} {g : D → D} : ∀ {ds : List D}, (∀ d ∈ ds, ∃ st1, b d st = some st1 ∧ c st1 = .ok (p d) ∧ (p d = true → e st1 = .ok (g d))) → compGo b c e st ds = .ok ((ds.filter p).map g)
  | [], _ => rfl
  | d :: ds, h => by
    obtain ⟨st1, h1, h2, h3⟩ := h d List.mem_cons_self
    have ih := compGo_of (ds := ds) fun d hd => h d (List.mem_cons_of_mem _ hd)
    unfold compGo
    rw [h1]
    simp only [of_some, bind_ok, h2, nr_ok]
    cases q : p d with
    | true =>
      rw [if_pos rfl, h3 q]
      simp only [nr_ok, bind_ok, ih]
      rw [List.filter_cons_of_pos q, List.map_cons]
    | false =>
      rw [if_neg Bool.false_ne_true, ih, List.filter_cons_of_neg (by rw [q]; simp)]
/-- .. over numbers, giving numbers -/
theorem comp_ints {it : MA} {own : List Nat} {b : D → Store → Option Store} {c : MT} {e : ME} {st : Store} {ns : List Int} {p : Int → Bool} {g : Int → Int} (hi : it st = .ok (ns.map D.int)) (hl : ns.length ≤ 100000)
    (h : ∀ k ∈ ns, ∃ st1, b (.int k) (wipeS st own) = some st1 ∧ c st1 = .ok (p k) ∧ (p k = true → e st1 = .ok (.int (g k)))) : eComp it own b c e st = .ok (Ls ((ns.filter p).map g)) := by
  unfold eComp
  rw [hi]
  simp only [bind_ok]
  have q := compGo_of (b := b) (c := c) (e := e) (st := wipeS st own) (p := fun d => match d with | .int k => p k | _ => true) (g := fun d => match d with | .int k => .int (g k) | d => d) (ds := ns.map D.int) fun d hd => by
    obtain ⟨k, hk, rfl⟩ := List.mem_map.mp hd
    exact h k hk
  rw [q]
  simp only [bind_ok]
  have e1 : (List.map (fun d => match d with | .int k => D.int (g k) | d => d) (List.filter (fun d => match d with | .int k => p k | _ => true) (ns.map D.int))) = ((ns.filter p).map g).map D.int := by
    rw [List.filter_map, List.map_map, List.map_map]
    rfl
  rw [e1, if_pos]
  · rfl
  · rw [List.length_map, List.length_map]
    exact Nat.le_trans (List.length_filter_le _ _) hl
theorem comp_all {it : MA} {own : List Nat} {b : D → Store → Option Store} {e : ME} {st : Store} {ns : List Int} {g : Int → Int} (hi : it st = .ok (ns.map D.int)) (hl : ns.length ≤ 100000)
    (h : ∀ k ∈ ns, ∃ st1, b (.int k) (wipeS st own) = some st1 ∧ e st1 = .ok (.int (g k))) : eComp it own b mYes e st = .ok (Ls (ns.map g)) := by
  have q := comp_ints (it := it) (own := own) (b := b) (c := mYes) (e := e) (st := st) (ns := ns) (p := fun _ => true) (g := g) hi hl fun k hk => by
    obtain ⟨st1, h1, h2⟩ := h k hk
    exact ⟨st1, h1, rfl, fun _ => h2⟩
  rw [q, List.filter_eq_self.mpr (fun _ _ => rfl)]
theorem range1_ok {n : Int} (h : n ≤ 100000) (h0 : 0 ≤ n) : range1A [.int n] = some ((iota n).map D.int) := by
  show (if _ then _ else _) = _
  rw [if_pos ⟨h, by omega⟩, rangeI_iota]
/-- a loop over numbers that goes on to its end -/
theorem loop_nx {b : D → Store → Option Store} {body : MS} {I : Store → Prop} : ∀ {ds : List D} {st : Store}, I st → (∀ d ∈ ds, ∀ st, I st → ∃ st1 st2, b d st = some st1 ∧ body st1 = .nx st2 ∧ I st2) → ∃ st', mLoop b body ds st = .nx st' ∧ I st'
  | [], st, h, _ => ⟨st, rfl, h⟩
  | d :: ds, st, h, hs => by
    obtain ⟨st1, st2, h1, h2, h3⟩ := hs d List.mem_cons_self st h
    obtain ⟨st', q1, q2⟩ := loop_nx (ds := ds) h3 fun d hd => hs d (List.mem_cons_of_mem _ hd)
    refine ⟨st', ?_, q2⟩
    unfold mLoop
    rw [h1]
    simp only [h2]
    exact q1
theorem for_nx {it : MA} {b : D → Store → Option Store} {body : MS} {I : Store → Prop} {st : Store} {ds : List D} (hi : it st = .ok ds) (h0 : I st) (hs : ∀ d ∈ ds, ∀ st, I st → ∃ st1 st2, b d st = some st1 ∧ body st1 = .nx st2 ∧ I st2) : ∃ st', mFor it b body st = .nx st' ∧ I st' := by
  obtain ⟨st', q1, q2⟩ := loop_nx (b := b) (body := body) h0 hs
  refine ⟨st', ?_, q2⟩
  unfold mFor
  rw [hi]
  exact q1
theorem seq_nx {a b : MS} {st st1 : Store} (h : a st = .nx st1) : mSeq a b st = b st1 := by
  unfold mSeq
  rw [h]
theorem if_no {t : MT} {a b : MS} {st : Store} (h : t (thaw st) = .ok false) : mIf t a b st = b st := by
  unfold mIf
  rw [h]; rfl
theorem if_yes {t : MT} {a b : MS} {st : Store} (h : t (thaw st) = .ok true) : mIf t a b st = a st := by
  unfold mIf
  rw [h]; rfl
theorem set_ok {f : ME} {i : Nat} {st : Store} {d : D} (h : f st = .ok d) : mSet i f st = .nx (st.set i (.dat d)) := by
  unfold mSet
  rw [h]; rfl
theorem asg_ok {f : ME} {b : D → Store → Option Store} {st st' : Store} {d : D} (h : f st = .ok d) (h2 : b d st = some st') : mAsg b f st = .nx st' := by
  unfold mAsg
  rw [h]
  show (match b d st with | some st' => RS.nx st' | none => .no) = _
  rw [h2]
theorem drop_ok {f : ME} {st : Store} {d : D} (h : f (thaw st) = .ok d) : mDrop f st = .nx st := by
  unfold mDrop
  rw [h]; rfl
theorem drop_rs {f : ME} {st : Store} {c : Str} (h : f (thaw st) = .rs c) : mDrop f st = .rs c st := by
  unfold mDrop
  rw [h]; rfl
theorem ret_ok {f : ME} {st : Store} {d : D} (h : f (thaw st) = .ok d) : mRet f st = .rt d := by
  unfold mRet
  rw [h]; rfl
end Pg
namespace Pg
@[simp] theorem min2_int (i j : Int) : min2B [.int i, .int j] = some (.int (min i j)) := by
  show some (D.int (if j < i then j else i)) = _
  congr 2
  split <;> omega
@[simp] theorem max2_int (i j : Int) : max2B [.int i, .int j] = some (.int (max i j)) := by
  show some (D.int (if j > i then j else i)) = _
  congr 2
  split <;> omega
@[simp] theorem abs_int (i : Int) : absB [.int i] = some (.int (i.natAbs : Int)) := by
  show some (D.int (if i < 0 then -i else i)) = _
  congr 2
  split <;> omega
@[simp] theorem lenB_tup (xs : List D) : lenB [.tup xs] = some (.int xs.length) := rfl
@[simp] theorem lenB_lst (xs : List D) : lenB [.lst xs] = some (.int xs.length) := rfl
@[simp] theorem lenB_Ls (xs : List Int) : lenB [Ls xs] = some (.int xs.length) := by
  show some (D.int ((xs.map D.int).length : Nat)) = _
  rw [List.length_map]
@[simp] theorem lenB_scr (xs : List Int) : lenB [.scr xs] = some (.int xs.length) := rfl
end Pg
namespace Pg
open PySem L2
theorem eqv_scr_nil (ns : List Int) : eqv (.scr ns) (.lst []) = decide (ns = []) := by
  show PyData.eqv (toP (.scr ns)) (toP (.lst [])) = _
  cases ns <;> (simp only [toP, toPs, List.map_nil, List.map_cons, PyData.eqv, PyData.eqvAll]; simp)
@[simp] theorem ne_scr_nil (ns : List Int) : neD (.scr ns) (.lst []) = some (.bl (!decide (ns = []))) := by
  unfold neD
  rw [if_pos ⟨rfl, rfl⟩, eqv_scr_nil]
theorem ix_scr {ns : List Int} {j : Int} (h0 : 0 ≤ j) (h1 : j < ns.length) : ∃ m, ixD (.scr ns) (.int j) = some (.int m) := by
  have h : ns[j.toNat]? = some ns[j.toNat] := List.getElem?_eq_getElem (by omega)
  refine ⟨ns[j.toNat], ?_⟩
  show (atI ns j).map D.int = _
  have e : atI ns j = ns[j.toNat]? := by
    unfold atI ixN
    rw [if_pos h0, if_pos h1]
    rfl
  rw [e, h]
  rfl
@[simp] theorem pow_10 : powD (.int 10) (.int 18) = some (.int 1000000000000000000) := by
  have e : powD (.int 10) (.int 18) = if (0 : Int) ≤ 18 ∧ (18 : Int) ≤ 1000 ∧ (10 : Int).natAbs < 2 ^ 64 then some (.int ((10 : Int) ^ (18 : Int).toNat)) else none := rfl
  rw [e, if_pos (by decide)]
  rfl
end Pg
namespace Pg
section
variable {α : Type} {c : Prop} [Decidable c]
@[simp] theorem ite_ok (a b : α) : (if c then R.ok a else R.ok b) = R.ok (if c then a else b) := by split <;> rfl
@[simp] theorem ite_int (a b : Int) : (if c then D.int a else D.int b) = D.int (if c then a else b) := by split <;> rfl
@[simp] theorem ite_bl (a b : Bool) : (if c then D.bl a else D.bl b) = D.bl (if c then a else b) := by split <;> rfl
end
end Pg
namespace Pg
open PySem
@[simp] theorem eq_bl (i j : Bool) : eqD (.bl i) (.bl j) = some (.bl (decide (i = j))) := by
  unfold eqD
  rw [if_pos ⟨rfl, rfl⟩]
  show some (D.bl (PyData.eqv (.bool i) (.bool j))) = _
  unfold PyData.eqv
  rw [Bool.beq_eq_decide_eq]
@[simp] theorem ne_bl (i j : Bool) : neD (.bl i) (.bl j) = some (.bl (!decide (i = j))) := by
  unfold neD
  rw [if_pos ⟨rfl, rfl⟩]
  show some (D.bl (!PyData.eqv (.bool i) (.bool j))) = _
  unfold PyData.eqv
  rw [Bool.beq_eq_decide_eq]
@[simp] theorem eq_non_int (j : Int) : eqD .non (.int j) = some (.bl false) := rfl
@[simp] theorem eq_int_non (j : Int) : eqD (.int j) .non = some (.bl false) := rfl
@[simp] theorem eq_non : eqD .non .non = some (.bl true) := rfl
@[simp] theorem ne_non_int (j : Int) : neD .non (.int j) = some (.bl true) := rfl
@[simp] theorem ne_int_non (j : Int) : neD (.int j) .non = some (.bl true) := rfl
@[simp] theorem ne_non : neD .non .non = some (.bl false) := rfl
@[simp] theorem is_int_non' (j : Int) : isD (.int j) .non = some (.bl false) := rfl
@[simp] theorem is_non_non : isD .non .non = some (.bl true) := rfl
@[simp] theorem is_bl_bl (a b : Bool) : isD (.bl a) (.bl b) = some (.bl (decide (a = b))) := rfl
@[simp] theorem isn_int_non (j : Int) : isnD (.int j) .non = some (.bl true) := rfl
@[simp] theorem isn_non_non : isnD .non .non = some (.bl false) := rfl
@[simp] theorem isn_bl_bl (a b : Bool) : isnD (.bl a) (.bl b) = some (.bl (!decide (a = b))) := rfl
end Pg

namespace Pg
open PySem L2
/-! ### views -/
inductive Rl where
  | down
  | near
  | up
def Rl.s : Rl → Str
  | .down => "down"
  | .near => "near"
  | .up => "up"
structure Vw where
  rows : Int
  h : Int
  s : Int
  r : Rl
def Vw.d (v : Vw) : D := .tup [.int v.rows, .int v.h, .int v.s, .str v.r.s]
def Vw.rest (v : Vw) : Int := v.rows - v.h
/-- a view whose steps may be many -/
structure Vw.wok (v : Vw) : Prop where
  h1 : 1 ≤ v.h
  hr : v.h ≤ v.rows
  r99 : v.rows ≤ 99
  h30 : v.h ≤ 30
  s1 : 1 ≤ v.s
  s100 : v.s ≤ 1000
structure Vw.ok (v : Vw) : Prop where
  w : v.wok
  s60 : v.s ≤ 60
def rnd (a b : Int) : Rl → Int
  | .down => a / b
  | .near => (2 * a + b) / (2 * b)
  | .up => (a + b - 1) / b
def Vw.first (v : Vw) (k : Int) : Int := rnd (k * v.rest) v.s v.r
def Vw.firsts (v : Vw) : List Int := (iota (v.s + 1)).map v.first
/-! ### texts -/
theorem char_lt (c : Char) : c.toNat < 0x110000 := by
  have := c.valid
  unfold Char.toNat
  rcases this with h | h
  · exact Nat.lt_trans h (by decide)
  · exact h.2
@[simp] theorem strOk_lit (s : String) : PyData.strOk (Str.ofString s) = true := by
  rw [Str.ofString_eq_toList]
  unfold PyData.strOk
  simp only [Array.all_eq_true, decide_eq_true_eq]
  intro i hi
  simp only [List.getElem_toArray, List.getElem_map]
  exact char_lt _
theorem map_inj : ∀ {l m : List Char}, l.map Char.toNat = m.map Char.toNat → l = m
  | [], [], _ => rfl
  | [], _ :: _, h => by cases h
  | _ :: _, [], h => by cases h
  | a :: l, b :: m, h => by
    rw [List.map_cons, List.map_cons] at h
    injection h with h1 h2
    rw [map_inj h2, Char.toNat_inj.mp h1]
@[simp] theorem ofString_inj {s t : String} : Str.ofString s = Str.ofString t ↔ s = t := by
  constructor
  · intro h
    rw [Str.ofString_eq_toList, Str.ofString_eq_toList] at h
    injection h with h1
    have h2 := congrArg Array.toList h1
    simp only at h2
    exact String.toList_inj.mp (map_inj h2)
  · intro h
    rw [h]
@[simp] theorem eq_strs (s t : String) : eqD (.str (Str.ofString s)) (.str (Str.ofString t)) = some (.bl (decide (s = t))) := by
  unfold eqD
  rw [if_pos ⟨strOk_lit s, strOk_lit t⟩]
  show some (D.bl (PyData.eqv (toP (.str _)) (toP (.str _)))) = _
  simp only [toP, PyData.eqv]
  rw [Bool.beq_eq_decide_eq]
  simp
@[simp] theorem ne_strs (s t : String) : neD (.str (Str.ofString s)) (.str (Str.ofString t)) = some (.bl (!decide (s = t))) := by
  unfold neD
  rw [if_pos ⟨strOk_lit s, strOk_lit t⟩]
  show some (D.bl (!PyData.eqv (toP (.str _)) (toP (.str _)))) = _
  simp only [toP, PyData.eqv]
  rw [Bool.beq_eq_decide_eq]
  simp
@[simp] theorem beq_strs (s t : String) : (Str.ofString s == Str.ofString t) = decide (s = t) := by
  rw [Bool.beq_eq_decide_eq]
  simp
end Pg
namespace Pg
open PySem L2
theorem div_uniq {x b q : Int} (hb : 0 < b) (h1 : b * q ≤ x) (h2 : x < b * q + b) : x / b = q := by
  apply Int.le_antisymm
  · apply Int.le_of_lt_add_one
    apply Int.ediv_lt_of_lt_mul hb
    rw [Int.add_mul, Int.mul_comm q b]
    omega
  · apply Int.le_ediv_of_mul_le hb
    rw [Int.mul_comm]
    exact h1
theorem near_eq {a b : Int} (hb : 0 < b) : (2 * a + b) / (2 * b) = if b ≤ 2 * (a % b) then a / b + 1 else a / b := by
  have e := Int.mul_ediv_add_emod a b
  have r0 := Int.emod_nonneg a (show b ≠ 0 by omega)
  have r1 := Int.emod_lt_of_pos a hb
  split
  · apply div_uniq (by omega)
    · have : 2 * b * (a / b + 1) = 2 * (b * (a / b)) + 2 * b := by rw [Int.mul_add, Int.mul_assoc]; omega
      omega
    · have : 2 * b * (a / b + 1) = 2 * (b * (a / b)) + 2 * b := by rw [Int.mul_add, Int.mul_assoc]; omega
      omega
  · apply div_uniq (by omega)
    · have : 2 * b * (a / b) = 2 * (b * (a / b)) := by rw [Int.mul_assoc]
      omega
    · have : 2 * b * (a / b) = 2 * (b * (a / b)) := by rw [Int.mul_assoc]
      omega
theorem up_eq {a b : Int} (hb : 0 < b) : (a + b - 1) / b = if 0 < a % b then a / b + 1 else a / b := by
  have e := Int.mul_ediv_add_emod a b
  have r0 := Int.emod_nonneg a (show b ≠ 0 by omega)
  have r1 := Int.emod_lt_of_pos a hb
  split
  · apply div_uniq hb
    · have : b * (a / b + 1) = b * (a / b) + b := by rw [Int.mul_add]; omega
      omega
    · have : b * (a / b + 1) = b * (a / b) + b := by rw [Int.mul_add]; omega
      omega
  · apply div_uniq hb <;> omega
end Pg
namespace Pg
open PySem L2
theorem atI_some {α : Type} {xs : List α} {k : Int} {a : α} (h0 : 0 ≤ k) (h : xs[k.toNat]? = some a) : atI xs k = some a := by
  have e : k = (k.toNat : Int) := by omega
  rw [e]
  exact atI_nat h
theorem firsts_len (v : Vw) (h : v.wok) : v.firsts.length = (v.s + 1).toNat := by
  unfold Vw.firsts
  rw [List.length_map, iota_length]
theorem firsts_at {v : Vw} {k : Int} (h0 : 0 ≤ k) (h1 : k ≤ v.s) : atI v.firsts k = some (v.first k) := by
  apply atI_some h0
  unfold Vw.firsts
  rw [List.getElem?_map, iota_get (by omega)]
  show some (v.first (k.toNat : Int)) = _
  rw [show ((k.toNat : Nat) : Int) = k by omega]
theorem firsts_ix {v : Vw} {k : Int} (h0 : 0 ≤ k) (h1 : k ≤ v.s) : ixD (Ls v.firsts) (.int k) = some (.int (v.first k)) := atI_int (firsts_at h0 h1)
theorem add_Ls {xs ys : List Int} (h : xs.length + ys.length ≤ 100000) : addD (Ls xs) (Ls ys) = some (Ls (xs ++ ys)) := by
  show (if _ then _ else _) = _
  rw [if_pos (by simpa using h)]
  unfold Ls
  rw [List.map_append]
end Pg

namespace Pg
open PySem L2
/-- a loop over numbers that goes on to its end; what holds may speak of the numbers that were walked -/
theorem loop_acc {b : D → Store → Option Store} {body : MS} {I : List Int → Store → Prop} : ∀ {ns pre : List Int} {st : Store}, I pre st → (∀ a k c, a ++ k :: c = pre ++ ns → pre.length ≤ a.length → ∀ st, I a st → ∃ st1 st2, b (.int k) st = some st1 ∧ body st1 = .nx st2 ∧ I (a ++ [k]) st2) → ∃ st', mLoop b body (ns.map D.int) st = .nx st' ∧ I (pre ++ ns) st'
  | [], pre, st, h, _ => ⟨st, rfl, by simpa using h⟩
  | k :: ns, pre, st, h, hs => by
    obtain ⟨st1, st2, h1, h2, h3⟩ := hs pre k ns rfl (Nat.le_refl _) st h
    obtain ⟨st', q1, q2⟩ := loop_acc (ns := ns) (pre := pre ++ [k]) h3 fun a k' c e hl => by
      have : (pre ++ [k]).length = pre.length + 1 := by simp
      exact hs a k' c (by rw [e]; simp) (by omega)
    refine ⟨st', ?_, by simpa using q2⟩
    rw [List.map_cons]
    unfold mLoop
    rw [h1]
    simp only [h2]
    exact q1
theorem for_acc {it : MA} {b : D → Store → Option Store} {body : MS} {I : List Int → Store → Prop} {st : Store} {ns : List Int} (hi : it st = .ok (ns.map D.int)) (h0 : I [] st) (hs : ∀ a k c, a ++ k :: c = ns → ∀ st, I a st → ∃ st1 st2, b (.int k) st = some st1 ∧ body st1 = .nx st2 ∧ I (a ++ [k]) st2) : ∃ st', mFor it b body st = .nx st' ∧ I ns st' := by
  obtain ⟨st', q1, q2⟩ := loop_acc (b := b) (body := body) (ns := ns) (pre := []) h0 fun a k c e _ => hs a k c e
  refine ⟨st', ?_, q2⟩
  unfold mFor
  rw [hi]
  exact q1
theorem mkF_rt {n N : Nat} {m : MS} {ds : List D} {d : D} (hl : ds.length = n) (h : m (ds.map Slot.dat ++ List.replicate (N - n) .un) = .rt d) : mkF n N m ds = .ok d := by
  unfold mkF
  rw [if_pos hl, h]
theorem Ls_nil : (D.lst []) = Ls [] := rfl
@[simp] theorem eq_Ls_nil (xs : List Int) : eqD (Ls xs) (.lst []) = some (.bl (decide (xs = []))) := eq_Ls xs []
@[simp] theorem ne_Ls_nil (xs : List Int) : neD (Ls xs) (.lst []) = some (.bl (!decide (xs = []))) := ne_Ls xs []
theorem any_ints (k : Int) : ∀ xs : List Int, ((xs.map D.int).any fun y => eqF y (.int k)) = decide (k ∈ xs)
  | [] => rfl
  | x :: xs => by
    rw [List.map_cons, List.any_cons, any_ints k xs]
    show (x == k || decide (k ∈ xs)) = _
    rw [Bool.beq_eq_decide_eq]
    simp only [List.mem_cons, Bool.decide_or]
    congr 1
    rw [decide_eq_decide]
    exact eq_comm
theorem all_flat : ∀ xs : List Int, (xs.map D.int).all flatD = true
  | [] => rfl
  | x :: xs => all_flat xs
@[simp] theorem in_Ls (k : Int) (xs : List Int) : inD false (.int k) (Ls xs) = some (.bl (decide (k ∈ xs))) := by
  show inL false (.int k) (xs.map D.int) = _
  unfold inL
  rw [if_pos ⟨rfl, all_flat xs⟩, if_neg (by decide), any_ints]
@[simp] theorem nin_Ls (k : Int) (xs : List Int) : inD true (.int k) (Ls xs) = some (.bl (!decide (k ∈ xs))) := by
  show inL true (.int k) (xs.map D.int) = _
  unfold inL
  rw [if_pos ⟨rfl, all_flat xs⟩, if_pos rfl, any_ints]
/-! lists of pairs -/
def Prs (ps : List (Int × Int)) : D := .lst (ps.map fun p => D.tup [.int p.1, .int p.2])
theorem prsOf_prs : ∀ ps : List (Int × Int), prsOf (ps.map fun p => D.tup [.int p.1, .int p.2]) = some ps
  | [] => rfl
  | p :: ps => by
    show (prsOf (ps.map _)).map (fun q => (p.1, p.2) :: q) = _
    rw [prsOf_prs ps]
    rfl
theorem okd_prs (n : Nat) : ∀ ps : List (Int × Int), (ps.map fun p => D.tup [.int p.1, .int p.2]).all (okd (n + 2)) = true
  | [] => rfl
  | p :: ps => okd_prs n ps
theorem eqv_prs_nil (ps : List (Int × Int)) : eqv (Prs ps) (.lst []) = decide (ps = []) := by
  show PyData.eqv (toP (.lst _)) (toP (.lst [])) = _
  cases ps <;> (simp only [toP, toPs, List.map_nil, List.map_cons, PyData.eqv, PyData.eqvAll]; simp)
@[simp] theorem ne_prs_nil (ps : List (Int × Int)) : neD (Prs ps) (.lst []) = some (.bl (!decide (ps = []))) := by
  unfold neD
  rw [if_pos ⟨okd_prs 3 ps, rfl⟩, eqv_prs_nil]
/-- the second number of the least pair -/
def bestOf : List (Int × Int) → D
  | [] => .non
  | p :: ps => .int (minPr p ps).2
@[simp] theorem minPB_cons (p : Int × Int) (ps : List (Int × Int)) : minPB [Prs (p :: ps)] = some (.tup [.int (minPr p ps).1, .int (minPr p ps).2]) := by
  show ((prsOf _).bind _) = _
  rw [prsOf_prs]
  rfl
theorem best_ok {f : ME} {st : Store} {ps : List (Int × Int)} (h : f st = .ok (Prs ps)) : eIf (mVal (bin neD f (eLst aNil))) (bin ixD (bcall minPB (aCons f aNil)) (eC (.int 1))) (eC .non) st = .ok (bestOf ps) := by
  cases ps with
  | nil => simp [h, bestOf]
  | cons p ps =>
    simp [h, bestOf]
    rfl
theorem comp_prs {it : MA} {own : List Nat} {b : D → Store → Option Store} {e : ME} {st : Store} {ns : List Int} {g : Int → Int × Int} (hi : it st = .ok (ns.map D.int)) (hl : ns.length ≤ 100000)
    (h : ∀ k ∈ ns, ∃ st1, b (.int k) (wipeS st own) = some st1 ∧ e st1 = .ok (.tup [.int (g k).1, .int (g k).2])) : eComp it own b mYes e st = .ok (Prs (ns.map g)) := by
  unfold eComp
  rw [hi]
  simp only [bind_ok]
  have q := compGo_of (b := b) (c := mYes) (e := e) (st := wipeS st own) (p := fun _ => true) (g := fun d => match d with | .int k => .tup [.int (g k).1, .int (g k).2] | d => d) (ds := ns.map D.int) fun d hd => by
    obtain ⟨k, hk, rfl⟩ := List.mem_map.mp hd
    obtain ⟨st1, h1, h2⟩ := h k hk
    exact ⟨st1, h1, rfl, fun _ => h2⟩
  rw [q]
  simp only [bind_ok]
  rw [List.filter_eq_self.mpr (fun _ _ => rfl), List.map_map, if_pos (by simpa using hl)]
  unfold Prs
  rw [List.map_map]
  rfl
theorem iota_ix {n k : Int} {g : Int → Int} (h0 : 0 ≤ k) (h1 : k < n) : ixD (Ls ((iota n).map g)) (.int k) = some (.int (g k)) := by
  apply atI_int
  apply atI_some h0
  rw [List.getElem?_map, iota_get (by omega)]
  show some (g (k.toNat : Int)) = _
  rw [show ((k.toNat : Nat) : Int) = k by omega]
/-- an own list of numbers -/
def Os (xs : List Int) : Slot := .own (xs.map D.int)
@[simp] theorem thaw1_Os (xs : List Int) : thaw1 (Os xs) = .dat (Ls xs) := rfl
theorem app_Os {i : Nat} {f : ME} {st : Store} {xs : List Int} {k : Int} (h : st[i]? = some (Os xs)) (hf : f st = .ok (.int k)) (hl : xs.length < 100000) : mApp i f st = .nx (st.set i (Os (xs ++ [k]))) := by
  unfold mApp ifOwn appTo
  rw [hf]
  simp only [thn_ok]
  rw [h]
  simp only [Os, List.length_map]
  rw [if_pos hl, List.map_append]
  rfl
theorem ne_best (ps : List (Int × Int)) : neD (bestOf ps) (bestOf ps) = some (.bl false) := by
  cases ps <;> simp [bestOf]
theorem pre_lt {a c ns : List Int} {k : Int} (e : a ++ k :: c = ns) : k ∈ ns ∧ a.length < ns.length := by
  subst e
  simp
theorem iota_nil {n : Int} (h : n ≤ 0) : iota n = [] := by
  unfold iota
  rw [show n.toNat = 0 by omega]
  rfl
end Pg

namespace Pg
open PySem L2
theorem compGo_gen {α : Type} {q : α → D} {b : D → Store → Option Store} {c : MT} {e : ME} {st : Store} {p : α → Bool} {g : α → D} : ∀ {xs : List α}, (∀ x ∈ xs, ∃ st1, b (q x) st = some st1 ∧ c st1 = .ok (p x) ∧ (p x = true → e st1 = .ok (g x))) → compGo b c e st (xs.map q) = .ok ((xs.filter p).map g)
  | [], _ => rfl
  | d :: ds, h => by
    obtain ⟨st1, h1, h2, h3⟩ := h d List.mem_cons_self
    have ih := compGo_gen (q := q) (xs := ds) fun d hd => h d (List.mem_cons_of_mem _ hd)
    rw [List.map_cons]
    unfold compGo
    rw [h1]
    simp only [of_some, bind_ok, h2, nr_ok]
    cases z : p d with
    | true =>
      rw [if_pos rfl, h3 z]
      simp only [nr_ok, bind_ok, ih]
      rw [List.filter_cons_of_pos z, List.map_cons]
    | false =>
      rw [if_neg Bool.false_ne_true, ih, List.filter_cons_of_neg (by rw [z]; simp)]
/-- a comprehension over anything -/
theorem comp_gen {α : Type} {it : MA} {own : List Nat} {b : D → Store → Option Store} {c : MT} {e : ME} {st : Store} {xs : List α} {q : α → D} {p : α → Bool} {g : α → D} (hi : it st = .ok (xs.map q)) (hl : xs.length ≤ 100000)
    (h : ∀ x ∈ xs, ∃ st1, b (q x) (wipeS st own) = some st1 ∧ c st1 = .ok (p x) ∧ (p x = true → e st1 = .ok (g x))) : eComp it own b c e st = .ok (.lst ((xs.filter p).map g)) := by
  unfold eComp
  rw [hi]
  simp only [bind_ok]
  rw [compGo_gen h]
  simp only [bind_ok]
  rw [if_pos]
  rw [List.length_map]
  exact Nat.le_trans (List.length_filter_le _ _) hl
theorem comp_map {α : Type} {it : MA} {own : List Nat} {b : D → Store → Option Store} {e : ME} {st : Store} {xs : List α} {q : α → D} {g : α → D} (hi : it st = .ok (xs.map q)) (hl : xs.length ≤ 100000)
    (h : ∀ x ∈ xs, ∃ st1, b (q x) (wipeS st own) = some st1 ∧ e st1 = .ok (g x)) : eComp it own b mYes e st = .ok (.lst (xs.map g)) := by
  have r := comp_gen (it := it) (own := own) (b := b) (c := mYes) (e := e) (st := st) (xs := xs) (q := q) (p := fun _ => true) (g := g) hi hl fun x hx => by
    obtain ⟨st1, h1, h2⟩ := h x hx
    exact ⟨st1, h1, rfl, fun _ => h2⟩
  rw [r, List.filter_eq_self.mpr (fun _ _ => rfl)]
/-! lists that rise -/
theorem sorted_ext : ∀ {xs ys : List Int}, xs.Pairwise (· < ·) → ys.Pairwise (· < ·) → (∀ a, a ∈ xs ↔ a ∈ ys) → xs = ys
  | [], [], _, _, _ => rfl
  | [], y :: ys, _, _, h => by have := (h y).mpr List.mem_cons_self; simp at this
  | x :: xs, [], _, _, h => by have := (h x).mp List.mem_cons_self; simp at this
  | x :: xs, y :: ys, h1, h2, h => by
    have a1 := List.pairwise_cons.mp h1
    have a2 := List.pairwise_cons.mp h2
    have e : x = y := by
      have b1 := List.mem_cons.mp ((h x).mp List.mem_cons_self)
      have b2 := List.mem_cons.mp ((h y).mpr List.mem_cons_self)
      rcases b1 with b1 | b1
      · exact b1
      · rcases b2 with b2 | b2
        · exact b2.symm
        · have := a2.1 x b1
          have := a1.1 y b2
          omega
    subst e
    rw [sorted_ext a1.2 a2.2 fun a => ?_]
    constructor
    · intro ha
      rcases List.mem_cons.mp ((h a).mp (List.mem_cons_of_mem _ ha)) with b | b
      · have := a1.1 a ha
        omega
      · exact b
    · intro ha
      rcases List.mem_cons.mp ((h a).mpr (List.mem_cons_of_mem _ ha)) with b | b
      · have := a2.1 a ha
        omega
      · exact b
/-- a, a + 1, .. below b -/
def span (a b : Int) : List Int := (List.range (b - a).toNat).map fun i => a + ((i : Nat) : Int)
theorem mem_span {a b k : Int} : k ∈ span a b ↔ a ≤ k ∧ k < b := by
  unfold span
  simp only [List.mem_map, List.mem_range]
  constructor
  · rintro ⟨i, hi, rfl⟩
    omega
  · rintro ⟨h0, h1⟩
    exact ⟨(k - a).toNat, by omega, by omega⟩
theorem span_rise (a b : Int) : (span a b).Pairwise (· < ·) := by
  unfold span
  rw [List.pairwise_map]
  exact List.pairwise_lt_range.imp fun h => by omega
theorem iota_span (n : Int) : iota n = span 0 n := by
  unfold iota span
  rw [show (n - 0).toNat = n.toNat by omega]
  apply List.map_congr_left
  intro i _
  omega
theorem iota_rise (n : Int) : (iota n).Pairwise (· < ·) := by rw [iota_span]; exact span_rise 0 n
theorem span_len (a b : Int) : (span a b).length = (b - a).toNat := by unfold span; simp
theorem rangeI_span (a b : Int) : rangeI a (b - a).toNat = (span a b).map D.int := by
  unfold rangeI span
  rw [List.map_map]
  rfl
theorem rg2_span {a b : Int} (h1 : -100000 ≤ a) (h2 : a ≤ 100000) (h3 : -100000 ≤ b) (h4 : b ≤ 100000) : rg2D (.int a) (.int b) = some (Ls (span a b)) := by
  show (if _ then _ else _) = _
  rw [if_pos ⟨⟨h1, h2⟩, h3, h4⟩, rangeI_span]
  rfl
theorem rg1_iota {n : Int} (h1 : 0 ≤ n) (h2 : n ≤ 100000) : rg1D (.int n) = some (Ls (iota n)) := by
  show (if _ then _ else _) = _
  rw [if_pos ⟨h1, h2⟩, rangeI_iota]
  rfl
theorem filter_span {a b n : Int} (h0 : 0 ≤ a) (h1 : b ≤ n) : (iota n).filter (fun k => decide (a ≤ k) && decide (k < b)) = span a b := by
  apply sorted_ext ((iota_rise n).filter _) (span_rise a b)
  intro k
  simp only [List.mem_filter, mem_iota, mem_span, Bool.and_eq_true, decide_eq_true_eq]
  omega
theorem maxI_some : ∀ {ns : List Int}, ns ≠ [] → ∃ m, maxI ns = some m
  | [], h => absurd rfl h
  | [a], _ => ⟨a, rfl⟩
  | a :: b :: r, _ => by
    obtain ⟨m, h⟩ := maxI_some (ns := b :: r) (by simp)
    refine ⟨max a m, ?_⟩
    show (maxI (b :: r)).map (max a) = _
    rw [h]
    rfl
@[simp] theorem maxB_Ls (ns : List Int) : maxB [Ls ns] = (maxI ns).map D.int := by
  show ((intsOf (ns.map D.int)).bind fun ns => (maxI ns).map D.int) = _
  rw [intsOf_map]
  rfl
/-! gaps -/
namespace Vw
def at' (v : Vw) (s : Int) : Vw := ⟨v.rows, v.h, s, v.r⟩
theorem at_wok {v : Vw} (h : v.wok) {s : Int} (h1 : 1 ≤ s) (h2 : s ≤ 1000) : (v.at' s).wok := ⟨h.h1, h.hr, h.r99, h.h30, h1, h2⟩
theorem at_rest (v : Vw) (s : Int) : (v.at' s).rest = v.rest := rfl
theorem rest0 {v : Vw} (h : v.wok) : 0 ≤ v.rest ∧ v.rest ≤ 98 := by
  have ⟨h1, h2, h3, h4, h5, h6⟩ := h
  unfold Vw.rest
  omega
theorem rnd_mul {q b : Int} (hb : 0 < b) (r : Rl) : rnd (q * b) b r = q := by
  cases r
  · exact Int.mul_ediv_cancel q (by omega)
  · apply div_uniq (by omega)
    · rw [show 2 * b * q = 2 * (q * b) by rw [Int.mul_assoc, Int.mul_comm b q]]; omega
    · rw [show 2 * b * q = 2 * (q * b) by rw [Int.mul_assoc, Int.mul_comm b q]]; omega
  · apply div_uniq hb
    · rw [Int.mul_comm]; omega
    · rw [Int.mul_comm]; omega
theorem first_0 {v : Vw} (h : v.wok) : v.first 0 = 0 := by
  have := rnd_mul (q := 0) (b := v.s) (by have := h.s1; omega) v.r
  unfold Vw.first
  rw [Int.zero_mul] at *
  exact this
theorem first_s {v : Vw} (h : v.wok) : v.first v.s = v.rest := by
  have := rnd_mul (q := v.rest) (b := v.s) (by have := h.s1; omega) v.r
  unfold Vw.first
  rw [Int.mul_comm v.s]
  exact this
theorem rnd_mono {a b s : Int} (hs : 0 < s) (h : a ≤ b) (r : Rl) : rnd a s r ≤ rnd b s r := by
  cases r
  · exact Int.ediv_le_ediv hs h
  · exact Int.ediv_le_ediv (by omega) (by omega)
  · exact Int.ediv_le_ediv hs (by omega)
theorem first_mono {v : Vw} (h : v.wok) {j k : Int} (hjk : j ≤ k) : v.first j ≤ v.first k :=
  rnd_mono (by have := h.s1; omega) (Int.mul_le_mul_of_nonneg_right hjk (rest0 h).1) v.r
theorem first_bd {v : Vw} (h : v.wok) {k : Int} (h0 : 0 ≤ k) (h1 : k ≤ v.s) : 0 ≤ v.first k ∧ v.first k ≤ v.rest := by
  have a := first_mono h h0
  have b := first_mono h h1
  rw [first_0 h] at a
  rw [first_s h] at b
  exact ⟨a, b⟩
def gaps (v : Vw) : List Int := (iota v.s).map fun k => v.first (k + 1) - v.first k
def gap (v : Vw) : Int := (maxI v.gaps).getD 0
theorem gap_some {v : Vw} (h : 1 ≤ v.s) : maxI v.gaps = some v.gap := by
  obtain ⟨m, e⟩ := maxI_some (ns := v.gaps) (by
    intro e
    have := congrArg List.length e
    unfold gaps at this
    rw [List.length_map, iota_length, List.length_nil] at this
    omega)
  unfold gap
  rw [e]
  rfl
theorem gap_le {v : Vw} (h : 1 ≤ v.s) {m : Int} : v.gap ≤ m ↔ ∀ k, 0 ≤ k → k < v.s → v.first (k + 1) - v.first k ≤ m := by
  obtain ⟨a, b⟩ := maxI_max (gap_some h)
  constructor
  · intro hm k h0 h1
    have := b _ (List.mem_map.mpr ⟨k, mem_iota.mpr ⟨h0, h1⟩, rfl⟩)
    omega
  · intro hk
    obtain ⟨k, hk1, hk2⟩ := List.mem_map.mp a
    have ⟨z0, z1⟩ := mem_iota.mp hk1
    rw [← hk2]
    exact hk k z0 z1
theorem tele {f : Int → Int} {m : Int} : ∀ (n : Nat), (∀ k : Int, 0 ≤ k → k < n → f (k + 1) - f k ≤ m) → f n ≤ f 0 + n * m
  | 0, _ => by simp
  | n + 1, h => by
    have a := tele n fun k h0 h1 => h k h0 (by omega)
    have b := h n (by omega) (by omega)
    rw [show ((n + 1 : Nat) : Int) = (n : Int) + 1 from rfl, Int.add_mul, Int.one_mul]
    omega
theorem rest_le_gap {v : Vw} (h : v.wok) : v.rest ≤ v.s * v.gap := by
  have hs := h.s1
  have a := tele (f := v.first) (m := v.gap) v.s.toNat fun k h0 h1 => (gap_le hs).mp (Int.le_refl _) k h0 (by omega)
  rw [show ((v.s.toNat : Nat) : Int) = v.s by omega, first_0 h, first_s h] at a
  omega
/-- where as many steps are as rows are left, or more, no row is jumped over -/
theorem gap_few {v : Vw} (h : v.wok) (hr : v.rest ≤ v.s) : v.gap ≤ 1 := by
  have hs := h.s1
  rw [gap_le hs]
  intro k h0 h1
  have e : v.first (k + 1) ≤ v.first k + 1 := by
    unfold Vw.first
    have e1 : rnd ((k + 1) * v.rest) v.s v.r ≤ rnd (k * v.rest + 1 * v.s) v.s v.r := rnd_mono (by omega) (by rw [Int.add_mul]; omega) v.r
    have e2 : rnd (k * v.rest + 1 * v.s) v.s v.r = rnd (k * v.rest) v.s v.r + 1 := by
      cases v.r
      · show (_ : Int) / _ = _ / _ + 1
        rw [Int.add_mul_ediv_right _ _ (by omega)]
      · show (_ : Int) / _ = _ / _ + 1
        rw [show 2 * (k * v.rest + 1 * v.s) + v.s = 2 * (k * v.rest) + v.s + 1 * (2 * v.s) by omega, Int.add_mul_ediv_right _ _ (by omega)]
      · show (_ : Int) / _ = _ / _ + 1
        rw [show k * v.rest + 1 * v.s + v.s - 1 = k * v.rest + v.s - 1 + 1 * v.s by omega, Int.add_mul_ediv_right _ _ (by omega)]
    omega
  omega
theorem gap_many {v : Vw} (h : v.wok) (hr : v.s < v.rest) : 1 < v.gap := by
  have a := rest_le_gap h
  have hs := h.s1
  have c : ¬ v.gap ≤ 1 := fun hg => by
    have : v.s * v.gap ≤ v.s * 1 := Int.mul_le_mul_of_nonneg_left hg (by omega)
    omega
  omega
/-- the least number of steps from 1 on that does -/
theorem least {p : Int → Bool} {M : Int} (h1 : 1 ≤ M) (hp : p M = true) : ∃ s, 1 ≤ s ∧ s ≤ M ∧ p s = true ∧ ∀ t, 1 ≤ t → t < s → p t = false := by
  have go : ∀ (n : Nat) (M : Int), 1 ≤ M → M ≤ n → p M = true → ∃ s, 1 ≤ s ∧ s ≤ M ∧ p s = true ∧ ∀ t, 1 ≤ t → t < s → p t = false := by
    intro n
    induction n with
    | zero => intro M h1 h2 _; omega
    | succ n ih =>
      intro M h1 h2 hp
      by_cases q : ∃ t, 1 ≤ t ∧ t < M ∧ p t = true
      · obtain ⟨t, t1, t2, t3⟩ := q
        obtain ⟨s, a, b, c, d⟩ := ih t t1 (by omega) t3
        exact ⟨s, a, by omega, c, d⟩
      · refine ⟨M, h1, Int.le_refl _, hp, fun t t1 t2 => ?_⟩
        cases e : p t with
        | false => rfl
        | true => exact absurd ⟨t, t1, t2, e⟩ q
  exact go M.toNat M h1 (by omega) hp
end Vw
theorem cut_tail (xs : List D) : cutD xs (some 1) none = xs.drop 1 := by
  have e : HT.sIx xs.length 0 (some ((1 : Nat) : Int)) = min 1 xs.length := HT.sIx_nat _ _ 1
  have e' : HT.sIx xs.length 0 (some (1 : Int)) = min 1 xs.length := e
  unfold cutD
  rw [e', HT.sIx_none]
  by_cases h : 1 ≤ xs.length
  · rw [Nat.min_eq_left h]
    exact List.take_of_length_le (by simp)
  · have : xs = [] := List.length_eq_zero_iff.mp (by omega)
    subst this
    rfl
/-- numbers that follow one another, in pairs -/
theorem zip_iota {f : Int → Int} {n : Int} (h : 0 ≤ n) : zipD (((iota (n + 1)).map f).map D.int) ((((iota (n + 1)).map f).map D.int).drop 1) = (iota n).map fun k => D.tup [.int (f k), .int (f (k + 1))] := by
  apply List.ext_getElem?
  intro i
  unfold zipD
  rw [List.getElem?_zipWith, List.getElem?_drop]
  simp only [List.getElem?_map]
  by_cases hi : (i : Int) < n
  · rw [iota_get (n := n + 1) (by omega), iota_get (n := n + 1) (k := 1 + i) (by omega), iota_get hi]
    simp only [Option.map_some]
    rw [show ((1 + i : Nat) : Int) = (i : Int) + 1 by omega]
  · rw [List.getElem?_eq_none (l := iota (n + 1)) (i := 1 + i) (by rw [iota_length]; omega), List.getElem?_eq_none (l := iota n) (by rw [iota_length]; omega)]
    simp
end Pg

namespace Pg
open PySem L2
theorem app_OsF {i : Nat} {f : ME} {st : Store} {xs : List Int} {k : Int} (h : st[i]? = some (Os xs)) (hf : f (thaw st) = .ok (.int k)) (hl : xs.length < 100000) : mAppF i f st = .nx (st.set i (Os (xs ++ [k]))) := by
  unfold mAppF ifOwn appTo
  rw [hf]
  simp only [thn_ok]
  rw [h]
  simp only [Os, List.length_map]
  rw [if_pos hl, List.map_append]
  rfl
theorem last_ix (xs : List Int) (x : Int) : ixD (Ls (xs ++ [x])) (.int (-1)) = some (.int x) := by
  apply atI_int
  unfold atI ixN
  rw [if_neg (by decide)]
  have hl : (xs ++ [x]).length = xs.length + 1 := by simp
  rw [hl, if_pos (by omega)]
  rw [show (-1 + ((xs.length + 1 : Nat) : Int)).toNat = xs.length by omega]
  simp
theorem nodup_len : ∀ (n : Nat) (xs : List Int), xs.Nodup → (∀ k ∈ xs, 0 ≤ k ∧ k < n) → xs.length ≤ n
  | 0, xs, _, h => by
    cases xs with
    | nil => exact Nat.zero_le _
    | cons x r => have := h x List.mem_cons_self; omega
  | n + 1, xs, hn, h => by
    have a := nodup_len n (xs.erase (n : Int)) (hn.erase _) fun k hk => by
      have := (hn.mem_erase_iff).mp hk
      have := h k this.2
      omega
    have b : (xs.erase (n : Int)).length = if (n : Int) ∈ xs then xs.length - 1 else xs.length := List.length_erase
    split at b <;> omega
namespace Vw
def back (v : Vw) (row : Int) : Int := if v.rest = 0 then 0 else rnd (row * v.s) v.rest v.r
def ret (v : Vw) (k : Int) : Int := v.back (v.first k)
theorem rnd_0 {b : Int} (hb : 0 < b) (r : Rl) : rnd 0 b r = 0 := by
  have := rnd_mul (q := 0) hb r
  rw [Int.zero_mul] at this
  exact this
theorem back_bd {v : Vw} (h : v.wok) {row : Int} (h0 : 0 ≤ row) (h1 : row ≤ v.rest) : 0 ≤ v.back row ∧ v.back row ≤ v.s := by
  have hs := h.s1
  unfold back
  split
  · omega
  · have hr : 0 < v.rest := by omega
    have a := rnd_mono (a := 0) (b := row * v.s) hr (Int.mul_nonneg h0 (by omega)) v.r
    have b := rnd_mono (a := row * v.s) (b := v.rest * v.s) hr (Int.mul_le_mul_of_nonneg_right h1 (by omega)) v.r
    rw [rnd_0 hr] at a
    rw [Int.mul_comm v.rest v.s, rnd_mul hr] at b
    exact ⟨a, b⟩
theorem ret_bd {v : Vw} (h : v.wok) {k : Int} (h0 : 0 ≤ k) (h1 : k ≤ v.s) : 0 ≤ v.ret k ∧ v.ret k ≤ v.s := by
  have ⟨a, b⟩ := first_bd h h0 h1
  exact back_bd h a b
def steady (v : Vw) : List Int := (iota (v.s + 1)).filter fun k => decide (v.ret k = k)
/-- from x on, behind what was met -/
inductive Path (v : Vw) : List Int → Int → List Int → Prop where
  | stop {due : List Int} {x : Int} : x ∈ due → Path v due x due
  | go {due : List Int} {x : Int} {p : List Int} : x ∉ due → Path v (due ++ [x]) (v.ret x) p → Path v due x p
theorem path_some {v : Vw} (h : v.wok) : ∀ (n : Nat) (due : List Int) (x : Int), due.Nodup → (∀ k ∈ due, 0 ≤ k ∧ k ≤ v.s) → 0 ≤ x → x ≤ v.s → (v.s + 2 - due.length).toNat ≤ n → ∃ p, Path v due x p ∧ p.Nodup ∧ (∀ k ∈ p, 0 ≤ k ∧ k ≤ v.s)
  | 0, due, x, hn, hd, h0, h1, hl => by
    have := nodup_len (v.s + 1).toNat due hn fun k hk => by have := hd k hk; omega
    have := h.s1
    omega
  | n + 1, due, x, hn, hd, h0, h1, hl => by
    by_cases q : x ∈ due
    · exact ⟨due, .stop q, hn, hd⟩
    · have ⟨r0, r1⟩ := ret_bd h h0 h1
      have hs := h.s1
      have := nodup_len (v.s + 1).toNat due hn fun k hk => by have := hd k hk; omega
      obtain ⟨p, a, b⟩ := path_some h n (due ++ [x]) (v.ret x) (List.nodup_append.mpr ⟨hn, by simp, fun a ha b hb => by
        simp at hb
        subst hb
        exact fun e => q (e ▸ ha)⟩) (fun k hk => by
        rcases List.mem_append.mp hk with z | z
        · exact hd k z
        · simp at z
          omega) r0 r1 (by
            have : (due ++ [x]).length = due.length + 1 := by simp
            omega)
      exact ⟨p, .go q a, b⟩
theorem path_len {v : Vw} {due p : List Int} {x : Int} (h : Path v due x p) : due.length ≤ p.length := by
  induction h with
  | stop _ => exact Nat.le_refl _
  | go _ _ ih =>
    rw [List.length_append] at ih
    simp only [List.length_cons, List.length_nil] at ih
    omega
end Vw
end Pg

namespace Pg
open PySem L2
theorem eqv_self {d : D} (h : okd 6 d = true) : eqv d d = true := SeqAt.eqv_refl _ (okd_shape 6 d h).1
theorem eq_self' {d : D} (h : okd 6 d = true) : eqD d d = some (.bl true) := by
  unfold eqD
  rw [if_pos ⟨h, h⟩, eqv_self h]
theorem ne_self {d : D} (h : okd 6 d = true) : neD d d = some (.bl false) := by
  unfold neD
  rw [if_pos ⟨h, h⟩, eqv_self h]
  rfl
/-- a loop that ends at the first number that does -/
theorem loop_find {b : D → Store → Option Store} {body : MS} {I : Store → Prop} {p : Int → Bool} {g : Int → D} : ∀ {ns : List Int} {st : Store}, I st → (∀ k ∈ ns, ∀ st, I st → ∃ st1, b (.int k) st = some st1 ∧ (p k = true → body st1 = .rt (g k)) ∧ (p k = false → ∃ st2, body st1 = .nx st2 ∧ I st2)) →
    match ns.filter p with
    | [] => ∃ st', mLoop b body (ns.map D.int) st = .nx st' ∧ I st'
    | k :: _ => mLoop b body (ns.map D.int) st = .rt (g k)
  | [], st, h, _ => ⟨st, rfl, h⟩
  | k :: ns, st, h, hs => by
    obtain ⟨st1, h1, h2, h3⟩ := hs k List.mem_cons_self st h
    cases q : p k with
    | true =>
      rw [List.filter_cons_of_pos q]
      show mLoop b body (_ :: _) st = _
      unfold mLoop
      rw [h1]
      simp only [h2 q]
    | false =>
      rw [List.filter_cons_of_neg (by rw [q]; simp)]
      obtain ⟨st2, h4, h5⟩ := h3 q
      have e : mLoop b body ((k :: ns).map D.int) st = mLoop b body (ns.map D.int) st2 := by
        show mLoop b body (_ :: _) st = _
        conv => lhs; unfold mLoop
        rw [h1]
        simp only [h4]
      rw [e]
      exact loop_find h5 fun k hk => hs k (List.mem_cons_of_mem _ hk)
/-- the first of a list, or None -/
def headD : List Int → D
  | [] => .non
  | k :: _ => .int k
theorem okd_headD (xs : List Int) : okd 6 (headD xs) = true := by cases xs <;> rfl
theorem head_ok {f : ME} {st : Store} {xs : List Int} (h : f st = .ok (Ls xs)) : eIf (mVal (bin neD f (eLst aNil))) (bin ixD f (eC (.int 0))) (eC .non) st = .ok (headD xs) := by
  cases xs with
  | nil => simp [h, headD]
  | cons x xs =>
    have e : ixD (Ls (x :: xs)) (.int 0) = some (.int x) := atI_int (atI_some (by decide) rfl)
    simp [h, headD, e]
/-! lists of words -/
def rls : List Rl := [.down, .near, .up]
def Ws (rs : List Rl) : D := .lst (rs.map fun r => .str r.s)
@[simp] theorem okd_r (r : Rl) : okd 5 (.str r.s) = true := by cases r <;> exact strOk_lit _
theorem okd_Ws (rs : List Rl) : okd 6 (Ws rs) = true := by
  show (rs.map _).all (okd 5) = true
  rw [List.all_map]
  exact List.all_eq_true.mpr fun r _ => okd_r r
@[simp] theorem lenB_Ws (rs : List Rl) : lenB [Ws rs] = some (.int rs.length) := by
  show some (D.int ((rs.map _).length : Nat)) = _
  rw [List.length_map]
namespace Vw
def by' (v : Vw) (r : Rl) : Vw := ⟨v.rows, v.h, v.s, r⟩
theorem by_wok {v : Vw} (h : v.wok) (r : Rl) : (v.by' r).wok := ⟨h.h1, h.hr, h.r99, h.h30, h.s1, h.s100⟩
theorem by_ok {v : Vw} (h : v.ok) (r : Rl) : (v.by' r).ok := ⟨by_wok h.w r, h.s60⟩
/-- with more rows -/
def more (v : Vw) (n : Int) : Vw := ⟨v.rows + n, v.h, v.s, v.r⟩
def tall (v : Vw) (n : Int) : Vw := ⟨v.rows + n, v.h + n, v.s, v.r⟩
theorem more_wok {v : Vw} (h : v.wok) {n : Int} (h0 : 0 ≤ n) (h1 : v.rows + n ≤ 99) : (v.more n).wok := ⟨h.h1, by have := h.hr; show v.h ≤ v.rows + n; omega, h1, h.h30, h.s1, h.s100⟩
theorem more_ok {v : Vw} (h : v.ok) {n : Int} (h0 : 0 ≤ n) (h1 : v.rows + n ≤ 99) : (v.more n).ok := ⟨more_wok h.w h0 h1, h.s60⟩
theorem tall_ok {v : Vw} (h : v.ok) {n : Int} (h0 : 0 ≤ n) (h1 : v.rows + n ≤ 99) (h2 : v.h + n ≤ 30) : (v.tall n).ok := ⟨⟨by have := h.w.h1; show 1 ≤ v.h + n; omega, by have := h.w.hr; show v.h + n ≤ v.rows + n; omega, h1, h2, h.w.s1, h.w.s100⟩, h.s60⟩
def alike (v u : Vw) : Bool := decide (v.h = u.h) && decide (v.firsts = u.firsts)
def apart (v u : Vw) : List Int := (iota (v.s + 1)).filter fun k => !decide (v.h = u.h) || !decide (v.first k = u.first k)
def rules (v : Vw) : List Rl := rls.filter fun r => decide (v.firsts = (v.by' r).firsts)
def same (v u : Vw) : List Int := (iota (v.s + 1)).filter fun k => decide (v.first k = u.first k)
theorem firsts_length {v : Vw} (h : v.wok) : (v.firsts.length : Int) = v.s + 1 := by
  have := h.s1
  unfold firsts
  rw [List.length_map, iota_length]
  omega
end Vw
end Pg

namespace Pg
open PySem L2
theorem map_iota_eq {f g : Int → Int} {n : Int} : (iota n).map f = (iota n).map g ↔ ∀ k, 0 ≤ k → k < n → f k = g k := by
  constructor
  · intro h k h0 h1
    exact List.map_inj_left.mp h k (mem_iota.mpr ⟨h0, h1⟩)
  · intro h
    apply List.map_congr_left
    intro k hk
    have ⟨k0, k1⟩ := mem_iota.mp hk
    exact h k k0 k1
theorem filter_nil {p : Int → Bool} {n : Int} : (iota n).filter p = [] ↔ ∀ k, 0 ≤ k → k < n → p k = false := by
  rw [List.filter_eq_nil_iff]
  constructor
  · intro h k h0 h1
    have := h k (mem_iota.mpr ⟨h0, h1⟩)
    simpa using this
  · intro h k hk
    have ⟨k0, k1⟩ := mem_iota.mp hk
    rw [h k k0 k1]
    simp
theorem filter_all {p : Int → Bool} {n : Int} : (iota n).filter p = iota n ↔ ∀ k, 0 ≤ k → k < n → p k = true := by
  rw [List.filter_eq_self]
  constructor
  · intro h k h0 h1
    exact h k (mem_iota.mpr ⟨h0, h1⟩)
  · intro h k hk
    have ⟨k0, k1⟩ := mem_iota.mp hk
    exact h k k0 k1
theorem filter_same {p q : Int → Bool} {n : Int} (h : ∀ k, 0 ≤ k → k < n → p k = q k) : (iota n).filter p = (iota n).filter q := by
  apply List.filter_congr
  intro k hk
  have ⟨k0, k1⟩ := mem_iota.mp hk
  exact h k k0 k1
theorem filter_head {p : Int → Bool} {n k : Int} {r : List Int} (h : (iota n).filter p = k :: r) : 0 ≤ k ∧ k < n ∧ p k = true ∧ ∀ j, 0 ≤ j → j < k → p j = false := by
  have hk : k ∈ (iota n).filter p := by rw [h]; exact List.mem_cons_self
  have ⟨a, b⟩ := List.mem_filter.mp hk
  have ⟨k0, k1⟩ := mem_iota.mp a
  refine ⟨k0, k1, b, fun j j0 j1 => ?_⟩
  cases e : p j with
  | false => rfl
  | true =>
    have hj : j ∈ (iota n).filter p := List.mem_filter.mpr ⟨mem_iota.mpr ⟨j0, by omega⟩, e⟩
    have hs := (iota_rise n).filter p
    rw [h] at hj hs
    have := (List.pairwise_cons.mp hs).1
    rcases List.mem_cons.mp hj with z | z
    · omega
    · have := this j z
      omega
theorem cut_to {xs : List D} {k : Int} (h0 : 0 ≤ k) (h1 : k ≤ xs.length) : cutD xs none (some k) = xs.take k.toNat := by
  have e : HT.sIx xs.length xs.length (some ((k.toNat : Nat) : Int)) = min k.toNat xs.length := HT.sIx_nat _ _ _
  rw [show ((k.toNat : Nat) : Int) = k by omega] at e
  unfold cutD
  rw [e, HT.sIx_none, Nat.min_eq_left (by omega)]
  rfl
theorem sl_to {xs : List Int} {k : Int} (h0 : 0 ≤ k) (h1 : k ≤ xs.length) : slD (Ls xs) none (some k) = some (Ls (xs.take k.toNat)) := by
  show some (D.lst (cutD (xs.map D.int) none (some k))) = _
  rw [cut_to h0 (by simpa using h1), ← List.map_take]
  rfl
theorem take_map_iota {f g : Int → Int} {n k : Int} (h : ∀ j, 0 ≤ j → j < k → f j = g j) : ((iota n).map f).take k.toNat = ((iota n).map g).take k.toNat := by
  rw [← List.map_take, ← List.map_take]
  apply List.map_congr_left
  intro j hj
  have hs := iota_rise n
  obtain ⟨i, hi, e⟩ := List.getElem_of_mem hj
  have hi' : i < k.toNat ∧ i < n.toNat := by
    rw [List.length_take, iota_length] at hi
    omega
  rw [List.getElem_take] at e
  have e2 : (iota n)[i]? = some ((i : Nat) : Int) := iota_get (by omega)
  rw [List.getElem?_eq_getElem (by rw [iota_length]; omega)] at e2
  have e3 := Option.some.inj e2
  rw [e3] at e
  subst e
  exact h _ (by omega) (by omega)
theorem Rl.s_inj : ∀ {a b : Rl}, a.s = b.s → a = b := by
  intro a b h
  cases a <;> cases b <;> first | rfl | (exact absurd (ofString_inj.mp h) (by decide))
instance : DecidableEq Rl := fun a b => by cases a <;> cases b <;> first | exact isTrue rfl | exact isFalse (by intro h; cases h)
theorem in_Ws (neg : Bool) (r : Rl) (rs : List Rl) : inD neg (.str r.s) (Ws rs) = some (.bl (if neg then !decide (r ∈ rs) else decide (r ∈ rs))) := by
  have e : ∀ rs : List Rl, ((rs.map fun r => D.str r.s).any fun y => eqF y (.str r.s)) = decide (r ∈ rs) := by
    intro rs
    induction rs with
    | nil => rfl
    | cons x xs ih =>
      rw [List.map_cons, List.any_cons, ih]
      show (x.s == r.s || decide (r ∈ xs)) = _
      rw [Bool.beq_eq_decide_eq]
      simp only [List.mem_cons, Bool.decide_or]
      congr 1
      rw [decide_eq_decide]
      exact ⟨fun h => (Rl.s_inj h).symm, fun h => by rw [h]⟩
  have fl : ∀ rs : List Rl, (rs.map fun r => D.str r.s).all flatD = true := by
    intro rs
    induction rs with
    | nil => rfl
    | cons x xs ih => exact ih
  show inL neg (.str r.s) (rs.map fun r => D.str r.s) = _
  unfold inL
  rw [if_pos ⟨rfl, fl rs⟩, e]
namespace Vw
theorem firsts_iff {v u : Vw} (h : v.s = u.s) : v.firsts = u.firsts ↔ ∀ k, 0 ≤ k → k ≤ v.s → v.first k = u.first k := by
  unfold firsts
  rw [← h, map_iota_eq]
  constructor
  · intro z k h0 h1
    exact z k h0 (by omega)
  · intro z k h0 h1
    exact z k h0 (by omega)
theorem apart_nil {v u : Vw} (h : v.s = u.s) (hh : v.h = u.h) : v.apart u = [] ↔ v.firsts = u.firsts := by
  unfold apart
  rw [filter_nil, firsts_iff h]
  simp only [hh, decide_true, Bool.not_true, Bool.false_or, Bool.not_eq_false', decide_eq_true_eq]
  constructor
  · intro z k h0 h1
    exact z k h0 (by omega)
  · intro z k h0 h1
    exact z k h0 (by omega)
theorem apart_comm {v u : Vw} (h : v.s = u.s) : v.apart u = u.apart v := by
  unfold apart
  rw [h]
  apply filter_same
  intro k _ _
  rw [show decide (v.h = u.h) = decide (u.h = v.h) by rw [decide_eq_decide]; exact eq_comm, show decide (v.first k = u.first k) = decide (u.first k = v.first k) by rw [decide_eq_decide]; exact eq_comm]
theorem by_self (v : Vw) : v.by' v.r = v := rfl
theorem mem_rls (r : Rl) : r ∈ rls := by cases r <;> simp [rls]
theorem mem_rules {v : Vw} {r : Rl} : r ∈ v.rules ↔ v.firsts = (v.by' r).firsts := by
  unfold rules
  rw [List.mem_filter]
  simp [mem_rls r]
theorem rules_all {v : Vw} (h : v.wok) (e : v.rest % v.s = 0) : v.rules = rls := by
  unfold rules
  rw [List.filter_eq_self]
  intro r _
  rw [decide_eq_true_eq, firsts_iff (show v.s = (v.by' r).s from rfl)]
  intro k h0 h1
  have hs := h.s1
  have e2 : k * v.rest = k * (v.rest / v.s) * v.s := by
    have := Int.mul_ediv_add_emod v.rest v.s
    rw [e, Int.add_zero, Int.mul_comm] at this
    rw [Int.mul_assoc, this]
  show rnd (k * v.rest) v.s v.r = rnd (k * v.rest) v.s r
  rw [e2, rnd_mul (by omega), rnd_mul (by omega)]
theorem rules_few {v : Vw} (h : v.wok) (e : v.rest % v.s ≠ 0) : (v.rules.length : Int) < 3 := by
  have hs := h.s1
  have r0 := Int.emod_nonneg v.rest (show v.s ≠ 0 by omega)
  have no : ¬ (v.firsts = (v.by' .down).firsts ∧ v.firsts = (v.by' .up).firsts) := by
    rintro ⟨a, b⟩
    have c := (firsts_iff (v := v.by' .down) (u := v.by' .up) rfl).mp (a ▸ b) 1 (by omega) hs
    have d : (1 * v.rest) / v.s = (1 * v.rest + v.s - 1) / v.s := c
    rw [Int.one_mul, up_eq (by omega), if_pos (by omega)] at d
    omega
  unfold rules rls
  by_cases a : v.firsts = (v.by' .down).firsts
  · have b : ¬ v.firsts = (v.by' .up).firsts := fun b => no ⟨a, b⟩
    simp only [List.filter_cons, List.filter_nil, b, decide_false, Bool.false_eq_true, if_false]
    split <;> split <;> simp
  · simp only [List.filter_cons, List.filter_nil, a, decide_false, Bool.false_eq_true, if_false]
    split <;> split <;> simp
theorem shows_congr {v u : Vw} {k row : Int} (hh : v.h = u.h) (h : v.first k = u.first k) : (decide (0 ≤ row - v.first k) && decide (row - v.first k < v.h)) = (decide (0 ≤ row - u.first k) && decide (row - u.first k < u.h)) := by rw [hh, h]
theorem same_all {v u : Vw} (h : v.s = u.s) : v.same u = iota (v.s + 1) ↔ v.firsts = u.firsts := by
  unfold same
  rw [filter_all, firsts_iff h]
  simp only [decide_eq_true_eq]
  constructor
  · intro z k h0 h1
    exact z k h0 (by omega)
  · intro z k h0 h1
    exact z k h0 (by omega)
theorem mem_same {v u : Vw} {k : Int} : k ∈ v.same u ↔ (0 ≤ k ∧ k < v.s + 1) ∧ v.first k = u.first k := by
  unfold same
  rw [List.mem_filter, mem_iota]
  simp
theorem not_same {v u : Vw} (hh : v.h = u.h) : (iota (v.s + 1)).filter (fun k => !decide (k ∈ v.same u)) = v.apart u := by
  unfold apart
  apply filter_same
  intro k k0 k1
  simp only [hh, decide_true, Bool.not_true, Bool.false_or]
  congr 1
  rw [decide_eq_decide, mem_same]
  exact ⟨fun z => z.2, fun z => ⟨⟨k0, k1⟩, z⟩⟩
end Vw
end Pg

namespace Pg
open PySem L2
theorem iota_last {n : Int} {g : Int → Int} (h : 0 ≤ n) : ixD (Ls ((iota (n + 1)).map g)) (.int (-1)) = some (.int (g n)) := by
  have e : iota (n + 1) = iota n ++ [n] := by
    unfold iota
    rw [show (n + 1).toNat = n.toNat + 1 by omega, List.range_succ, List.map_append]
    simp only [List.map_cons, List.map_nil]
    rw [show ((n.toNat : Nat) : Int) = n by omega]
  rw [e, List.map_append]
  exact last_ix _ _
theorem okd_Prs (ps : List (Int × Int)) : okd 6 (Prs ps) = true := okd_prs 3 ps
namespace Vw
/-- where as many steps are as rows are left, or fewer, every step goes on -/
theorem first_go {v : Vw} (h : v.wok) (hr : v.s ≤ v.rest) (k : Int) : v.first k + 1 ≤ v.first (k + 1) := by
  have hs := h.s1
  have e1 : rnd (k * v.rest + 1 * v.s) v.s v.r ≤ rnd ((k + 1) * v.rest) v.s v.r := rnd_mono (by omega) (by rw [Int.add_mul]; omega) v.r
  have e2 : rnd (k * v.rest + 1 * v.s) v.s v.r = rnd (k * v.rest) v.s v.r + 1 := by
    cases v.r
    · show (_ : Int) / _ = _ / _ + 1
      rw [Int.add_mul_ediv_right _ _ (by omega)]
    · show (_ : Int) / _ = _ / _ + 1
      rw [show 2 * (k * v.rest + 1 * v.s) + v.s = 2 * (k * v.rest) + v.s + 1 * (2 * v.s) by omega, Int.add_mul_ediv_right _ _ (by omega)]
    · show (_ : Int) / _ = _ / _ + 1
      rw [show k * v.rest + 1 * v.s + v.s - 1 = k * v.rest + v.s - 1 + 1 * v.s by omega, Int.add_mul_ediv_right _ _ (by omega)]
  show rnd (k * v.rest) v.s v.r + 1 ≤ rnd ((k + 1) * v.rest) v.s v.r
  omega
def still (v : Vw) : List Int := (iota v.s).filter fun k => decide (v.first k = v.first (k + 1))
theorem still_nil {v : Vw} (h : v.wok) : v.still = [] ↔ v.s ≤ v.rest := by
  have hs := h.s1
  unfold still
  rw [filter_nil]
  simp only [decide_eq_false_iff_not]
  constructor
  · intro z
    have a := tele (f := fun k => - v.first k) (m := -1) v.s.toNat fun k h0 h1 => by
      have b := z k h0 (by omega)
      have c := first_mono h (show k ≤ k + 1 by omega)
      omega
    rw [show ((v.s.toNat : Nat) : Int) = v.s by omega, first_0 h, first_s h] at a
    omega
  · intro z k h0 h1
    have := first_go h z k
    omega
end Vw
end Pg

namespace Pg
open PySem L2
@[simp] theorem anyB_bls (bs : List Bool) : anyB [.lst (bs.map D.bl)] = some (.bl (bs.any id)) := by
  show (blsOf (bs.map D.bl)).map _ = _
  rw [blsOf_map]
  rfl
@[simp] theorem allB_bls (bs : List Bool) : allB [.lst (bs.map D.bl)] = some (.bl (bs.all id)) := by
  show (blsOf (bs.map D.bl)).map _ = _
  rw [blsOf_map]
  rfl
/-- a comprehension over numbers, giving truth values -/
theorem comp_bls {it : MA} {own : List Nat} {b : D → Store → Option Store} {e : ME} {st : Store} {ns : List Int} {g : Int → Bool} (hi : it st = .ok (ns.map D.int)) (hl : ns.length ≤ 100000)
    (h : ∀ k ∈ ns, ∃ st1, b (.int k) (wipeS st own) = some st1 ∧ e st1 = .ok (.bl (g k))) : eComp it own b mYes e st = .ok (.lst ((ns.map g).map D.bl)) := by
  have q := comp_map (it := it) (own := own) (b := b) (e := e) (st := st) (xs := ns) (q := D.int) (g := fun k => .bl (g k)) hi hl h
  rw [q, List.map_map]
  rfl
/-- the differences of numbers that follow one another -/
theorem gap_comp {v : Vw} (h : v.wok) {i j k : Nat} {st : Store} (hi : st[i]? = some (.dat (Ls v.firsts))) (hx : ∀ x y : Slot, (((wipeS st [j, k]).set j x).set k y)[j]? = some x ∧ (((wipeS st [j, k]).set j x).set k y)[k]? = some y) :
    eComp (iArg zipA (aCons (eVar i) (aCons (eSl (eVar i) (oSome (eC (.int 1))) oNone) aNil))) [j, k] (bTup [j, k]) mYes (bin subD (eVar k) (eVar j)) st = .ok (Ls v.gaps) := by
  have ⟨g1, g2, g3, g4, g5, g6⟩ := h
  have q := comp_map (it := iArg zipA (aCons (eVar i) (aCons (eSl (eVar i) (oSome (eC (.int 1))) oNone) aNil))) (own := [j, k]) (b := bTup [j, k]) (e := bin subD (eVar k) (eVar j)) (st := st) (xs := iota v.s) (q := fun k => D.tup [.int (v.first k), .int (v.first (k + 1))]) (g := fun k => .int (v.first (k + 1) - v.first k))
    (by
      have z := zip_iota (f := v.first) (n := v.s) (by omega)
      simp only [iArg_eq, aCons_eq, eVar_eq, aNil_eq, eSl_eq, oSome_eq, oNone_eq, eC_eq, bind_ok, hi, asInt_int, of_some]
      show (R.of (zipA [.lst _, .lst (cutD _ (some 1) none)])) = _
      rw [cut_tail]
      show R.ok (zipD _ _) = _
      rw [← z]
      rfl)
    (by rw [iota_length]; omega) (fun a ha => by
      have ⟨b, c⟩ := hx (.dat (.int (v.first a))) (.dat (.int (v.first (a + 1))))
      exact ⟨_, rfl, by simp [setAll, b, c]⟩)
  rw [q]
  congr 1
  unfold Ls Vw.gaps
  rw [List.map_map]
  rfl
namespace Vw
/-- from k = 0 on, the last that does -/
theorem last_true {p : Int → Bool} : ∀ (n : Nat), p 0 = true → ∃ k : Int, 0 ≤ k ∧ k ≤ n ∧ p k = true ∧ (k < n → p (k + 1) = false)
  | 0, h => ⟨0, by omega, by omega, h, fun z => by omega⟩
  | n + 1, h => by
    cases e : p ((n : Int) + 1) with
    | true => exact ⟨(n : Int) + 1, by omega, by omega, e, fun z => by omega⟩
    | false =>
      obtain ⟨k, a, b, c, d⟩ := last_true n h
      refine ⟨k, a, by omega, c, fun z => ?_⟩
      by_cases q : k < n
      · exact d q
      · rw [show k = n by omega]
        exact e
/-- all rows are shown just where no gap is wider than the view -/
theorem seen_all {v : Vw} (h : v.wok) : (∀ row, 0 ≤ row → row < v.rows → ∃ k, 0 ≤ k ∧ k ≤ v.s ∧ v.first k ≤ row ∧ row < v.first k + v.h) ↔ v.gap ≤ v.h := by
  have hs := h.s1
  have h1 := h.h1
  have rr : v.rest = v.rows - v.h := rfl
  rw [gap_le hs]
  constructor
  · intro z k k0 k1
    by_cases q : v.first (k + 1) - v.first k ≤ v.h
    · exact q
    · have ⟨a0, a1⟩ := first_bd h k0 (show k ≤ v.s by omega)
      have ⟨b0, b1⟩ := first_bd h (k := k + 1) (by omega) (by omega)
      obtain ⟨j, j0, j1, j2, j3⟩ := z (v.first k + v.h) (by omega) (by omega)
      by_cases w : j ≤ k
      · have := first_mono h w
        omega
      · have := first_mono h (show k + 1 ≤ j by omega)
        omega
  · intro z row r0 r1
    obtain ⟨k, k0, k1, k2, k3⟩ := last_true (p := fun k => decide (v.first k ≤ row)) v.s.toNat (by rw [first_0 h]; simpa using r0)
    rw [show ((v.s.toNat : Nat) : Int) = v.s by omega] at k1 k3
    simp only [decide_eq_true_eq, decide_eq_false_iff_not] at k2 k3
    refine ⟨k, k0, k1, k2, ?_⟩
    by_cases q : k < v.s
    · have := k3 q
      have := z k k0 q
      omega
    · have e : k = v.s := by omega
      rw [e, first_s h]
      omega
end Vw
end Pg

namespace Pg
open PySem L2
theorem nodup_sub : ∀ {xs ys : List Int}, xs.Nodup → (∀ a ∈ xs, a ∈ ys) → xs.length ≤ ys.length
  | [], _, _, _ => Nat.zero_le _
  | x :: xs, ys, hn, h => by
    have a := List.nodup_cons.mp hn
    have b := nodup_sub (xs := xs) (ys := ys.erase x) a.2 fun y hy => by
      have : y ≠ x := fun e => a.1 (e ▸ hy)
      exact (List.mem_erase_of_ne this).mpr (h y (List.mem_cons_of_mem _ hy))
    have c : x ∈ ys := h x List.mem_cons_self
    have d := List.length_erase_of_mem c
    have e := List.length_pos_of_mem c
    rw [List.length_cons]
    omega
theorem nodup_len_eq {xs ys : List Int} (h1 : xs.Nodup) (h2 : ys.Nodup) (h : ∀ a, a ∈ xs ↔ a ∈ ys) : xs.length = ys.length :=
  Nat.le_antisymm (nodup_sub h1 fun a ha => (h a).mp ha) (nodup_sub h2 fun a ha => (h a).mpr ha)
theorem rise_nodup {xs : List Int} (h : xs.Pairwise (· < ·)) : xs.Nodup := h.imp fun h => by omega
theorem met_all (val : Nat → Int) : ∀ n : Nat, (PyProof.Rows.firstMet val n).Nodup ∧ ∀ a, a ∈ PyProof.Rows.firstMet val n ↔ ∃ i, i < n ∧ val i = a
  | 0 => ⟨by rw [PyProof.Rows.firstMet_zero]; exact List.nodup_nil, fun a => by rw [PyProof.Rows.firstMet_zero]; simp⟩
  | n + 1 => by
    obtain ⟨h1, h2⟩ := met_all val n
    rw [PyProof.Rows.firstMet_succ]
    unfold PyProof.Rows.step_dedup
    by_cases q : val n ∈ PyProof.Rows.firstMet val n
    · rw [if_pos (List.any_eq_true.mpr ⟨_, q, by simp⟩)]
      refine ⟨h1, fun a => ?_⟩
      rw [h2]
      constructor
      · rintro ⟨i, hi, e⟩
        exact ⟨i, by omega, e⟩
      · rintro ⟨i, hi, e⟩
        by_cases z : i < n
        · exact ⟨i, z, e⟩
        · have : i = n := by omega
          subst this
          obtain ⟨j, hj, e2⟩ := (h2 _).mp q
          exact ⟨j, hj, by rw [e2, e]⟩
    · rw [if_neg (fun z => by
        obtain ⟨y, hy, e⟩ := List.any_eq_true.mp z
        have : y = val n := by simpa using e
        exact q (this ▸ hy))]
      refine ⟨List.nodup_append.mpr ⟨h1, by simp, fun a ha b hb => by
        simp at hb
        subst hb
        exact fun e => q (e ▸ ha)⟩, fun a => ?_⟩
      rw [List.mem_append, h2]
      constructor
      · rintro (⟨i, hi, e⟩ | z)
        · exact ⟨i, by omega, e⟩
        · simp at z
          exact ⟨n, by omega, z.symm⟩
      · rintro ⟨i, hi, e⟩
        by_cases z : i < n
        · exact .inl ⟨i, z, e⟩
        · have : i = n := by omega
          subst this
          exact .inr (by simp [e])
theorem dedup_nodup (ns : List Int) : (dedupI ns).Nodup := (met_all _ _).1
theorem mem_dedup {ns : List Int} {a : Int} : a ∈ dedupI ns ↔ a ∈ ns := by
  unfold dedupI
  rw [(met_all _ _).2]
  constructor
  · rintro ⟨i, hi, e⟩
    rw [← e]
    show ns.getD i 0 ∈ ns
    rw [List.getD_eq_getElem?_getD, List.getElem?_eq_getElem hi]
    exact List.getElem_mem hi
  · intro h
    obtain ⟨i, hi, e⟩ := List.getElem_of_mem h
    refine ⟨i, hi, ?_⟩
    show ns.getD i 0 = a
    rw [List.getD_eq_getElem?_getD, List.getElem?_eq_getElem hi]
    exact e
theorem lenset_Ls {ns : List Int} (h : ns.length ≤ 4000) : lensetD (Ls ns) = some (.int ((dedupI ns).length : Nat)) := by
  show ((intsOf (ns.map D.int)).bind fun ns => if ns.length ≤ 4000 then some (D.int ((dedupI ns).length : Nat)) else none) = _
  rw [intsOf_map]
  show (if ns.length ≤ 4000 then _ else _) = _
  rw [if_pos h]
theorem filter_split {p : Int → Bool} : ∀ xs : List Int, (xs.filter p).length + (xs.filter fun a => !p a).length = xs.length
  | [] => rfl
  | x :: xs => by
    have ih := filter_split (p := p) xs
    cases e : p x with
    | true =>
      rw [List.filter_cons_of_pos e, List.filter_cons_of_neg (by rw [e]; simp)]
      simp only [List.length_cons]
      omega
    | false =>
      rw [List.filter_cons_of_neg (by rw [e]; simp), List.filter_cons_of_pos (by rw [e]; rfl)]
      simp only [List.length_cons]
      omega
namespace Vw
theorem rest_gap1 {v : Vw} (h : v.wok) : v.gap ≤ 1 ↔ v.rest ≤ v.s := by
  constructor
  · intro z
    have := gap_many h
    have c : ¬ v.s < v.rest := fun q => by have := this q; omega
    omega
  · exact gap_few h
theorem gap_0 {v : Vw} (h : v.wok) : v.gap = 0 ↔ v.rest = 0 := by
  have hs := h.s1
  have ⟨r0, r1⟩ := rest0 h
  constructor
  · intro z
    have := rest_le_gap h
    rw [z, Int.mul_zero] at this
    omega
  · intro z
    have f0 : ∀ k, 0 ≤ k → k ≤ v.s → v.first k = 0 := fun k k0 k1 => by
      have := first_bd h k0 k1
      omega
    have a : v.gap ≤ 0 := (gap_le hs).mpr fun k k0 k1 => by
      rw [f0 k k0 (by omega), f0 (k + 1) (by omega) (by omega)]
      omega
    have b : ¬ v.gap ≤ -1 := fun q => by
      have := (gap_le hs).mp q 0 (by omega) (by omega)
      rw [f0 0 (by omega) (by omega), f0 (0 + 1) (by omega) (by omega)] at this
      omega
    omega
theorem gap_rest {v : Vw} (h : v.wok) : v.gap ≤ v.rest := (gap_le h.s1).mpr fun k k0 k1 => by
  have a := first_bd h k0 (show k ≤ v.s by omega)
  have b := first_bd h (k := k + 1) (by omega) (by omega)
  omega
/-- the rest is gone through in steps of m rows at most, where s steps of m rows are enough -/
theorem gap_of {v : Vw} (h : v.wok) {m : Int} (hm : v.rest ≤ m * v.s) : v.gap ≤ m := by
  have hs := h.s1
  rw [gap_le hs]
  intro k h0 h1
  have e1 : rnd ((k + 1) * v.rest) v.s v.r ≤ rnd (k * v.rest + m * v.s) v.s v.r := rnd_mono (by omega) (by rw [Int.add_mul]; omega) v.r
  have e2 : rnd (k * v.rest + m * v.s) v.s v.r = rnd (k * v.rest) v.s v.r + m := by
    cases v.r
    · show (_ : Int) / _ = _ / _ + m
      rw [Int.add_mul_ediv_right _ _ (by omega)]
    · show (_ : Int) / _ = _ / _ + m
      have : m * (2 * v.s) = 2 * (m * v.s) := by rw [Int.mul_left_comm]
      rw [show 2 * (k * v.rest + m * v.s) + v.s = 2 * (k * v.rest) + v.s + m * (2 * v.s) by omega, Int.add_mul_ediv_right _ _ (by omega)]
    · show (_ : Int) / _ = _ / _ + m
      rw [show k * v.rest + m * v.s + v.s - 1 = k * v.rest + v.s - 1 + m * v.s by omega, Int.add_mul_ediv_right _ _ (by omega)]
  show rnd ((k + 1) * v.rest) v.s v.r - rnd (k * v.rest) v.s v.r ≤ m
  omega
theorem gap_hi {v : Vw} (h : v.wok) : v.gap ≤ v.rest / v.s + 1 := by
  have hs := h.s1
  apply gap_of h
  have a := Int.mul_ediv_add_emod v.rest v.s
  have b := Int.emod_lt_of_pos v.rest (show 0 < v.s by omega)
  rw [Int.add_mul, Int.mul_comm (v.rest / v.s)]
  omega
theorem gap_lo {v : Vw} (h : v.wok) : v.rest / v.s ≤ v.gap := by
  have hs := h.s1
  have a := rest_le_gap h
  have b : v.rest / v.s ≤ v.s * v.gap / v.s := Int.ediv_le_ediv (by omega) a
  rw [Int.mul_ediv_cancel_left _ (by omega)] at b
  exact b
/-- row is behind what k shows, and before what follows -/
theorem hole_iff {v : Vw} (h : v.wok) {row : Int} (r0 : 0 ≤ row) (r1 : row < v.rows) : (∀ k, 0 ≤ k → k ≤ v.s → ¬ (v.first k ≤ row ∧ row < v.first k + v.h)) ↔ ∃ k, 0 ≤ k ∧ k < v.s ∧ v.first k + v.h ≤ row ∧ row < v.first (k + 1) := by
  have hs := h.s1
  have h1 := h.h1
  have rr : v.rest = v.rows - v.h := rfl
  constructor
  · intro z
    obtain ⟨k, k0, k1, k2, k3⟩ := last_true (p := fun k => decide (v.first k ≤ row)) v.s.toNat (by rw [first_0 h]; simpa using r0)
    rw [show ((v.s.toNat : Nat) : Int) = v.s by omega] at k1 k3
    simp only [decide_eq_true_eq, decide_eq_false_iff_not] at k2 k3
    have y := z k k0 k1
    by_cases q : k < v.s
    · exact ⟨k, k0, q, by omega, by have := k3 q; omega⟩
    · have e : k = v.s := by omega
      rw [e, first_s h] at y k2
      omega
  · rintro ⟨k, k0, k1, k2, k3⟩ j j0 j1 ⟨y1, y2⟩
    by_cases w : j ≤ k
    · have := first_mono h w
      omega
    · have := first_mono h (show k + 1 ≤ j by omega)
      omega
end Vw
end Pg

namespace Pg
open PySem L2
theorem sort_self {xs : List Int} (h : xs.Pairwise (· ≤ ·)) : sortI xs = xs := PySem.W.ksm_same (sortI_perm xs) (sortI_sorted xs) h
theorem sort_rev {xs : List Int} (h : xs.Pairwise (· > ·)) : sortI xs = xs.reverse := by
  refine PySem.W.ksm_same ((sortI_perm xs).trans (List.reverse_perm xs).symm) (sortI_sorted xs) ?_
  rw [List.pairwise_reverse]
  exact h.imp fun h => by omega
@[simp] theorem sortB_Ls (xs : List Int) : sortB [Ls xs] = some (Ls (sortI xs)) := by
  show (intsOf (xs.map D.int)).map _ = _
  rw [intsOf_map]
  rfl
@[simp] theorem revD_Ls (xs : List Int) : revD (Ls xs) = some (Ls xs.reverse) := by
  show some (D.lst (xs.map D.int).reverse) = _
  rw [← List.map_reverse]
  rfl
theorem eq_down (r : Rl) : eqD (.str r.s) (.str "down") = some (.bl (decide (r = .down))) := by cases r <;> simp [Rl.s]
theorem eq_near (r : Rl) : eqD (.str r.s) (.str "near") = some (.bl (decide (r = .near))) := by cases r <;> simp [Rl.s]
theorem eq_up (r : Rl) : eqD (.str r.s) (.str "up") = some (.bl (decide (r = .up))) := by cases r <;> simp [Rl.s]
theorem ne_near (r : Rl) : neD (.str r.s) (.str "near") = some (.bl (!decide (r = .near))) := by cases r <;> simp [Rl.s]
namespace Vw
theorem back_mono {v : Vw} (h : v.wok) {a b : Int} (h0 : a ≤ b) : v.back a ≤ v.back b := by
  have hs := h.s1
  have ⟨r0, r1⟩ := rest0 h
  unfold back
  split
  · exact Int.le_refl _
  · exact rnd_mono (by omega) (Int.mul_le_mul_of_nonneg_right h0 (by omega)) v.r
theorem back_0 {v : Vw} (h : v.wok) : v.back 0 = 0 := by
  have ⟨r0, r1⟩ := rest0 h
  unfold back
  split
  · rfl
  · rw [Int.zero_mul]
    exact rnd_0 (by omega) v.r
theorem back_rest {v : Vw} (h : v.wok) (hr : 0 < v.rest) : v.back v.rest = v.s := by
  unfold back
  rw [if_neg (by omega), Int.mul_comm, rnd_mul hr]
theorem ret_0 {v : Vw} (h : v.wok) : v.ret 0 = 0 := by
  unfold ret
  rw [first_0 h, back_0 h]
theorem ret_s {v : Vw} (h : v.wok) (hr : 0 < v.rest) : v.ret v.s = v.s := by
  unfold ret
  rw [first_s h, back_rest h hr]
theorem ret_no {v : Vw} (hr : v.rest = 0) (k : Int) : v.ret k = 0 := by
  unfold ret back
  rw [if_pos hr]
theorem ret_down {v : Vw} (h : v.wok) (hd : v.r = .down) {k : Int} (h0 : 0 ≤ k) : v.ret k ≤ k := by
  have hs := h.s1
  have ⟨r0, r1⟩ := rest0 h
  unfold ret back
  split
  · exact h0
  · rw [hd]
    have e : v.first k = k * v.rest / v.s := by
      unfold first
      rw [hd]
      rfl
    rw [e]
    show k * v.rest / v.s * v.s / v.rest ≤ k
    have a : k * v.rest / v.s * v.s ≤ k * v.rest := Int.ediv_mul_le _ (by omega)
    have b := Int.ediv_le_ediv (c := v.rest) (by omega) a
    rw [Int.mul_ediv_cancel _ (by omega)] at b
    exact b
theorem ret_up {v : Vw} (h : v.wok) (hd : v.r = .up) (hr : 0 < v.rest) (k : Int) : k ≤ v.ret k := by
  have hs := h.s1
  unfold ret back
  rw [if_neg (by omega), hd]
  have e : v.first k = (k * v.rest + v.s - 1) / v.s := by
    unfold first
    rw [hd]
    rfl
  rw [e]
  have a := Int.lt_ediv_add_one_mul_self (k * v.rest + v.s - 1) (show 0 < v.s by omega)
  rw [Int.add_mul, Int.one_mul] at a
  have b := rnd_mono (a := k * v.rest) (b := (k * v.rest + v.s - 1) / v.s * v.s) hr (by omega) .up
  rw [rnd_mul hr] at b
  exact b
theorem ret_near {v : Vw} (h : v.wok) (hd : v.r = .near) (hr : v.s < v.rest) (k : Int) : v.ret k = k := by
  have hs := h.s1
  unfold ret back
  rw [if_neg (by omega), hd]
  have e : v.first k = (2 * (k * v.rest) + v.s) / (2 * v.s) := by
    unfold first
    rw [hd]
    rfl
  have a := Int.mul_ediv_add_emod (2 * (k * v.rest) + v.s) (2 * v.s)
  have b := Int.emod_nonneg (2 * (k * v.rest) + v.s) (show 2 * v.s ≠ 0 by omega)
  have c := Int.emod_lt_of_pos (2 * (k * v.rest) + v.s) (show 0 < 2 * v.s by omega)
  rw [← e] at a
  have a2 : 2 * v.s * v.first k = 2 * (v.first k * v.s) := by rw [Int.mul_assoc, Int.mul_comm v.s]
  show (2 * (v.first k * v.s) + v.rest) / (2 * v.rest) = k
  have d : 2 * v.rest * k = 2 * (k * v.rest) := by rw [Int.mul_assoc, Int.mul_comm v.rest]
  exact div_uniq (by omega) (by omega) (by omega)
theorem ret_same {v : Vw} (h : v.wok) (hr : v.s = v.rest) (k : Int) : v.ret k = k := by
  have hs := h.s1
  have e : v.first k = k := by
    unfold first
    rw [hr]
    exact rnd_mul (by omega) v.r
  unfold ret back
  rw [if_neg (by omega), e, hr]
  exact rnd_mul (by omega) v.r
theorem steady_all {v : Vw} : v.steady = iota (v.s + 1) ↔ ∀ k, 0 ≤ k → k < v.s + 1 → v.ret k = k := by
  unfold steady
  rw [filter_all]
  simp only [decide_eq_true_eq]
theorem steady_len {v : Vw} (h : v.wok) : (v.steady.length : Int) = v.s + 1 ↔ v.steady = iota (v.s + 1) := by
  have hs := h.s1
  constructor
  · intro z
    have a := filter_split (p := fun k => decide (v.ret k = k)) (iota (v.s + 1))
    have b : (iota (v.s + 1)).length = (v.s + 1).toNat := iota_length _
    have c : ((iota (v.s + 1)).filter fun k => decide (v.ret k = k)).length = v.steady.length := rfl
    have d : ((iota (v.s + 1)).filter fun k => !decide (v.ret k = k)) = [] := List.length_eq_zero_iff.mp (by omega)
    rw [steady_all]
    intro k k0 k1
    have e := filter_nil.mp d k k0 k1
    simpa using e
  · intro z
    rw [z, iota_length]
    omega
theorem steady_no {v : Vw} (h : v.wok) (hr : v.rest < v.s) : ¬ v.steady = iota (v.s + 1) := by
  intro z
  rw [steady_all] at z
  have a : v.still = [] := by
    unfold still
    rw [filter_nil]
    intro k k0 k1
    rw [decide_eq_false_iff_not]
    intro e
    have b := z k k0 (by omega)
    have c := z (k + 1) (by omega) (by omega)
    unfold ret at b c
    rw [e, c] at b
    omega
  have := (still_nil h).mp a
  omega
theorem mem_steady {v : Vw} {k : Int} : k ∈ v.steady ↔ (0 ≤ k ∧ k < v.s + 1) ∧ v.ret k = k := by
  unfold steady
  rw [List.mem_filter, mem_iota, decide_eq_true_eq]
theorem path_pre {v : Vw} {due p : List Int} {x : Int} (h : Path v due x p) : ∃ q, p = due ++ q := by
  induction h with
  | stop _ => exact ⟨[], by simp⟩
  | go _ _ ih =>
    obtain ⟨q, e⟩ := ih
    exact ⟨_, by rw [e, List.append_assoc]⟩
theorem path_end {v : Vw} {due p : List Int} {x : Int} (h : Path v due x p) : ∀ (pre : List Int) (y : Int), due = pre ++ [y] → x = v.ret y → ∃ q z, p = q ++ [z] ∧ v.ret z ∈ p := by
  induction h with
  | stop hx =>
    intro pre y e1 e2
    exact ⟨pre, y, e1, by rw [← e2]; exact hx⟩
  | @go due x p hx _ ih =>
    intro pre y e1 e2
    exact ih due x rfl rfl
theorem path_desc {v : Vw} {due p : List Int} {x : Int} (h : Path v due x p) (hr : ∀ k, 0 ≤ k → v.ret k ≤ k) (hw : v.wok) : ∀ (pre : List Int) (y : Int), due = pre ++ [y] → x = v.ret y → (∀ k ∈ due, 0 ≤ k ∧ k ≤ v.s) → due.Pairwise (· > ·) → p.Pairwise (· > ·) := by
  induction h with
  | stop hx => exact fun _ _ _ _ _ h => h
  | @go due x p hx _ ih =>
    intro pre y e1 e2 hd hp
    have ⟨y0, y1⟩ := hd y (by rw [e1]; simp)
    have ⟨z0, z1⟩ := ret_bd hw y0 y1
    have xy : x < y := by
      have := hr y y0
      have : x ≠ y := fun e => hx (by rw [e, e1]; simp)
      omega
    refine ih due x rfl rfl (fun k hk => ?_) (List.pairwise_append.mpr ⟨hp, by simp, fun a ha b hb => ?_⟩)
    · rcases List.mem_append.mp hk with z | z
      · exact hd k z
      · simp at z
        omega
    · simp at hb
      subst hb
      rw [e1] at ha hp
      rcases List.mem_append.mp ha with z | z
      · have := (List.pairwise_append.mp hp).2.2 a z y (by simp)
        omega
      · simp at z
        omega
theorem path_asc {v : Vw} {due p : List Int} {x : Int} (h : Path v due x p) (hr : ∀ k, 0 ≤ k → k ≤ v.ret k) (hw : v.wok) : ∀ (pre : List Int) (y : Int), due = pre ++ [y] → x = v.ret y → (∀ k ∈ due, 0 ≤ k ∧ k ≤ v.s) → due.Pairwise (· < ·) → p.Pairwise (· < ·) := by
  induction h with
  | stop hx => exact fun _ _ _ _ _ h => h
  | @go due x p hx _ ih =>
    intro pre y e1 e2 hd hp
    have ⟨y0, y1⟩ := hd y (by rw [e1]; simp)
    have ⟨z0, z1⟩ := ret_bd hw y0 y1
    have xy : y < x := by
      have := hr y y0
      have : x ≠ y := fun e => hx (by rw [e, e1]; simp)
      omega
    refine ih due x rfl rfl (fun k hk => ?_) (List.pairwise_append.mpr ⟨hp, by simp, fun a ha b hb => ?_⟩)
    · rcases List.mem_append.mp hk with z | z
      · exact hd k z
      · simp at z
        omega
    · simp at hb
      subst hb
      rw [e1] at ha hp
      rcases List.mem_append.mp ha with z | z
      · have := (List.pairwise_append.mp hp).2.2 a z y (by simp)
        omega
      · simp at z
        omega
end Vw
end Pg

namespace Pg
open PySem L2
theorem sum_append (xs ys : List Int) : (xs ++ ys).sum = xs.sum + ys.sum := by
  induction xs with
  | nil => simp
  | cons x xs ih => simp only [List.cons_append, List.sum_cons, ih]; omega
theorem sum_add (f g : Int → Int) : ∀ xs : List Int, (xs.map fun a => f a + g a).sum = (xs.map f).sum + (xs.map g).sum
  | [] => rfl
  | x :: xs => by
    simp only [List.map_cons, List.sum_cons, sum_add f g xs]
    omega
theorem sum_ind (p : Int → Bool) : ∀ xs : List Int, (xs.map fun a => if p a = true then (1 : Int) else 0).sum = ((xs.filter p).length : Int)
  | [] => rfl
  | x :: xs => by
    simp only [List.map_cons, List.sum_cons, sum_ind p xs]
    cases e : p x with
    | true =>
      rw [List.filter_cons_of_pos e, List.length_cons]
      simp
      omega
    | false =>
      rw [List.filter_cons_of_neg (by rw [e]; simp)]
      simp
/-- counted by rows, counted by steps -/
theorem double (q : Int → Int → Bool) (rows : List Int) : ∀ ks : List Int, (rows.map fun r => ((ks.filter fun k => q k r).length : Int)).sum = (ks.map fun k => ((rows.filter fun r => q k r).length : Int)).sum
  | [] => by
    simp only [List.filter_nil, List.length_nil, List.map_nil, List.sum_nil]
    induction rows with
    | nil => rfl
    | cons r rs ih => simpa using ih
  | k :: ks => by
    rw [List.map_cons, List.sum_cons, ← double q rows ks, ← sum_ind, ← sum_add]
    congr 1
    apply List.map_congr_left
    intro r _
    cases e : q k r with
    | true =>
      rw [List.filter_cons_of_pos (p := fun k => q k r) e, List.length_cons]
      simp
      omega
    | false =>
      rw [List.filter_cons_of_neg (p := fun k => q k r) (by rw [e]; simp)]
      simp
theorem sum_const (c : Int) : ∀ xs : List Int, (xs.map fun _ => c).sum = c * xs.length
  | [] => by simp
  | x :: xs => by
    rw [List.map_cons, List.sum_cons, sum_const c xs, List.length_cons]
    rw [show ((xs.length + 1 : Nat) : Int) = (xs.length : Int) + 1 by omega, Int.mul_add, Int.mul_one]
    omega
@[simp] theorem sumB_Ls (ns : List Int) : sumB [Ls ns] = some (.int ns.sum) := by
  show (intsOf (ns.map D.int)).map _ = _
  rw [intsOf_map]
  rfl
/-- what holds between two that do -/
theorem filter_conv {p : Int → Bool} {n : Int} (hc : ∀ a b c, 0 ≤ a → a ≤ c → c ≤ b → b < n → p a = true → p b = true → p c = true) {k : Int} {r : List Int} (h : (iota n).filter p = k :: r) : (iota n).filter p = span k (k + ((iota n).filter p).length) := by
  have hk := filter_head h
  obtain ⟨z, hz⟩ : ∃ z, z ∈ (iota n).filter p ∧ ∀ j ∈ (iota n).filter p, j ≤ z := by
    obtain ⟨m, e⟩ := maxI_some (ns := (iota n).filter p) (by rw [h]; simp)
    exact ⟨m, maxI_max e⟩
  have e : (iota n).filter p = span k (z + 1) := by
    refine sorted_ext ((iota_rise n).filter _) (span_rise _ _) fun j => ?_
    rw [mem_span]
    constructor
    · intro hj
      have a := hz.2 j hj
      have ⟨b, c⟩ := List.mem_filter.mp hj
      have ⟨j0, j1⟩ := mem_iota.mp b
      have : ¬ j < k := fun q => by
        have := hk.2.2.2 j j0 q
        rw [this] at c
        cases c
      omega
    · rintro ⟨a, b⟩
      have ⟨c, d⟩ := List.mem_filter.mp hz.1
      have ⟨z0, z1⟩ := mem_iota.mp c
      exact List.mem_filter.mpr ⟨mem_iota.mpr ⟨by omega, by omega⟩, hc k z j hk.1 a (by omega) z1 hk.2.2.1 d⟩
  have l : ((iota n).filter p).length = (z + 1 - k).toNat := by rw [e, span_len]
  have kz : k ≤ z := hz.2 k (by rw [h]; exact List.mem_cons_self)
  have : k + (((iota n).filter p).length : Int) = z + 1 := by omega
  rw [this]
  exact e
theorem minPr_mem : ∀ (xs : List (Int × Int)) (x : Int × Int), minPr x xs ∈ x :: xs
  | [], x => List.mem_cons_self
  | y :: xs, x => by
    have e : minPr x (y :: xs) = minPr (if prLt y x = true then y else x) xs := rfl
    rw [e]
    have := minPr_mem xs (if prLt y x = true then y else x)
    rcases List.mem_cons.mp this with z | z
    · rw [z]
      split
      · exact List.mem_cons_of_mem _ List.mem_cons_self
      · exact List.mem_cons_self
    · exact List.mem_cons_of_mem _ (List.mem_cons_of_mem _ z)
theorem rev_iota : ∀ n : Nat, (iota n).reverse = (iota n).map fun k => (n : Int) - 1 - k := by
  intro n
  apply List.ext_getElem?
  intro i
  rw [List.getElem?_map]
  by_cases hi : i < n
  · rw [List.getElem?_reverse (by rw [iota_length]; omega), iota_length, iota_get (by omega), iota_get (by omega)]
    simp only [Option.map_some]
    congr 1
    omega
  · rw [List.getElem?_eq_none (by rw [List.length_reverse, iota_length]; omega), List.getElem?_eq_none (by rw [iota_length]; omega)]
    rfl
namespace Vw
/-- the rule the other way round -/
def flip : Rl → Rl
  | .down => .up
  | .up => .down
  | .near => .near
theorem div_neg {a s : Int} (hs : 0 < s) : (-a) / s = -((a + s - 1) / s) := by
  have e := Int.mul_ediv_add_emod (a + s - 1) s
  have r0 := Int.emod_nonneg (a + s - 1) (show s ≠ 0 by omega)
  have r1 := Int.emod_lt_of_pos (a + s - 1) hs
  apply div_uniq hs
  · rw [Int.mul_neg]; omega
  · rw [Int.mul_neg]; omega
theorem turn_first {v : Vw} (h : v.wok) (hn : v.r ≠ .near) (k : Int) : (v.by' (flip v.r)).first k = v.rest - v.first (v.s - k) := by
  have hs := h.s1
  have e : (v.s - k) * v.rest = -(k * v.rest) + v.rest * v.s := by rw [Int.sub_mul, Int.mul_comm v.s]; omega
  show rnd (k * v.rest) v.s (flip v.r) = v.rest - rnd ((v.s - k) * v.rest) v.s v.r
  rw [e]
  cases hr : v.r with
  | down =>
    show (k * v.rest + v.s - 1) / v.s = v.rest - (-(k * v.rest) + v.rest * v.s) / v.s
    rw [Int.add_mul_ediv_right _ _ (by omega), div_neg (by omega)]
    omega
  | near => exact absurd hr hn
  | up =>
    show k * v.rest / v.s = v.rest - (-(k * v.rest) + v.rest * v.s + v.s - 1) / v.s
    have d := div_neg (a := -(k * v.rest)) (s := v.s) (by omega)
    rw [Int.neg_neg] at d
    rw [show -(k * v.rest) + v.rest * v.s + v.s - 1 = -(k * v.rest) + v.s - 1 + v.rest * v.s by omega, Int.add_mul_ediv_right _ _ (by omega), d]
    omega
/-- the three rules, in order -/
theorem rules_order {a b : Int} (hb : 0 < b) : rnd a b .down ≤ rnd a b .near ∧ rnd a b .near ≤ rnd a b .up ∧ rnd a b .up ≤ rnd a b .down + 1 := by
  show a / b ≤ (2 * a + b) / (2 * b) ∧ (2 * a + b) / (2 * b) ≤ (a + b - 1) / b ∧ (a + b - 1) / b ≤ a / b + 1
  rw [near_eq hb, up_eq hb]
  split <;> split <;> omega
end Vw
end Pg

namespace Pg
open PySem PySem.Spec PyProof.Rows L2
theorem setR_size {w : World} {h : Heap} {a : Addr} {ns : List Int} {n : Nat} (R : SetR w h a (fun j => decide (j ∈ ns)) n) : n = (dedupI ns).length := by
  obtain ⟨o, es, ep, t, _, _, _, _, nd, hm, _, _, hn, _⟩ := R
  have a := nodup_len_eq nd (dedup_nodup ns) fun k => by
    rw [← hm k, mem_dedup]
    simp
  rw [List.length_map, Array.length_toList] at a
  omega
def tSortSet (K : Fr) (ta : TE) : TE := fun σ H Q => ta σ H fun x H1 => ∃ (l : Addr) (ns : List Int), x = .ref l ∧ SqL K H1 l (ns.map V.int) ∧ ns.length ≤ 4000 ∧ (dedupI ns).length < 64 ∧
  ∀ p, H1 p = none → Q (.ref p) (upd H1 p (.lst ((sortI (dedupI ns)).map V.int)))
theorem pe_sortSet {X : Cx} {a : Expr} {ta : TE} {p p2 q pos : Pos} (hg : Gl X "sorted") (hm : X.mg "sorted" = none) (hg2 : Gl X "set") (hm2 : X.mg "set" = none) (ha : PE X a ta) (hc : X.calm = true)
    (na : starEach [a] X.env = (false, eval a X.env) :: starEach [] X.env) : PE X (.Call (.Name "sorted" p) [.Call (.Name "set" p2) [a] [] q] [] pos) (tSortSet X.K ta) := by
  refine ⟨fun pins s σ H Q I h => ?_⟩
  refine Call_ (ld_blt I hg hm boot_sorted ?_)
  refine PyProof.Rows.callWith_builtin1 (PyProof.Rows.args_cons ?_ rfl) rfl rfl
  refine Call_ (ld_blt I hg2 hm2 boot_set ?_)
  refine PyProof.Rows.callWith_type1 (PyProof.Rows.args_cons (thn (ha.run pins s σ H _ I h) fun v s1 ⟨x, H1, I1, r1, q1⟩ => PyProof.Rows.args_nil ?_) na) na rfl
  obtain ⟨l, ns, rfl, hq, hl, h64, q1⟩ := q1
  cases r1
  obtain ⟨its, r, pl, hz⟩ := I1.list hq
  refine set_of_list ns (I1.ok.hd hc) pl.isList (by simpa using RZ.intsAre_vals r) (by unfold scanBound; omega) fun h' tk c sr hc2 kp => ?_
  refine PyProof.Rows.args_nil ?_
  have e := setR_size sr
  have I2 : Inv X pins σ H1 { s1 with heap := h', toks := tk } := I1.kept kp
  refine sorted_set sr (I2.ok.hd hc) (by omega) fun s' p out c2 ms hk hgn hos hp hout hi hpw hmem hlen => ?_
  have es : ms = sortI (dedupI ns) := by
    have rise : (sortI (dedupI ns)).Pairwise (· < ·) := lt_of_le_nodup _ (sortI_sorted _) ((sortI_perm _).nodup_iff.mpr (dedup_nodup ns))
    refine sorted_ext hpw rise fun k => ?_
    rw [hmem, (sortI_perm _).mem_iff, mem_dedup]
    simp
  subst es
  have hn : H1 p = none := I2.hok.fresh hp
  have hlen2 : ((sortI (dedupI ns)).map V.int).length ≤ sizeLine := by rw [List.length_map, sizeLine_eq]; omega
  have J : Inv X pins σ (upd H1 p (.lst ((sortI (dedupI ns)).map V.int))) { ({ s1 with heap := h', toks := tk } : Shared) with heap := s'.heap, gens := s'.gens, drawn := s'.drawn, toks := s'.toks } :=
    Inv.call (s := { s1 with heap := h', toks := tk }) I2 (ch := []) (Un.laid hk hp hn) (I2.hok.laid hk hp ⟨hlen2, out.toList, c2, vals_of_ints hi, hout⟩) (by rw [hgn]; exact I2.bare) (fun _ z => nomatch z)
  have e2 : s' = { s1 with heap := s'.heap, gens := s'.gens, drawn := s'.drawn, toks := s'.toks } := by
    cases s'
    cases s1
    cases hos
    rfl
  rw [e2]
  exact ⟨.ref p, _, J, rfl, q1 p hn⟩
theorem g_sortset {X : Cx} {ea : Addr} {W : WX} {a : Expr} {f : ME} {p p2 q pos : Pos} (hc : X.calm = true) (hm : X.mg "sorted" = none) (hm2 : X.mg "set" = none) (ha : PE X a (tE X.K ea W f)) (hg : Gl X "sorted" := by rfl) (hg2 : Gl X "set" := by rfl)
    (na : starEach [a] X.env = (false, eval a X.env) :: starEach [] X.env := by rfl) : PE X (.Call (.Name "sorted" p) [.Call (.Name "set" p2) [a] [] q] [] pos) (tE X.K ea W (unr sortsetD f)) :=
  (pe_sortSet hg hm hg2 hm2 ha hc na).weak fun σ H Q hq => by
    obtain ⟨H0, G, st, rl, a⟩ := hq
    refine ⟨H0, G, st, rl, aft_mono (aft_bind a) fun x G1 H1 e1 a1 v dv => ?_⟩
    obtain ⟨z, ez, k⟩ := aft_of a1
    cases dv with
    | @lst l vs xs hl hd =>
      have ez' : ((intsOf xs).bind fun ns => if (sortI (dedupI ns)).length < 64 ∧ ns.length ≤ 4000 then some (D.lst ((sortI (dedupI ns)).map D.int)) else none) = some z := ez
      obtain ⟨ns, h1, h2⟩ := Option.bind_eq_some_iff.mp ez'
      rw [intsOf_inv h1] at hd
      rw [hd.ints_inv] at hl
      split at h2
      · rename_i h4
        cases h2
        have h64 : (dedupI ns).length < 64 := by rw [← (sortI_perm _).length_eq]; exact h4.1
        refine ⟨l, ns, rfl, SqL.of (e1.s _ _ hl), h4.2, h64, fun p hp => ?_⟩
        have ex := Ext.new (G := G1) (H := H1) (p := p) (o := .lst ((sortI (dedupI ns)).map V.int)) e1.s hp
        exact k _ _ ex _ (.lst upd_same (dens_ints _))
      · cases h2
    | _ => cases ez
end Pg

namespace Pg
open PySem L2
/-! ### pages: what is reached in how many turns -/
theorem dgetI_mem {kvs : List (Int × Int)} {k v : Int} (h : dgetI kvs k = some v) : (k, v) ∈ kvs := by
  induction kvs with
  | nil => cases h
  | cons p r ih =>
    unfold dgetI at h
    split at h
    · rename_i e
      cases h
      exact List.mem_cons.mpr (.inl (by rw [← e]))
    · exact List.mem_cons_of_mem _ (ih h)
theorem dgetI_of {kvs : List (Int × Int)} (nd : (kvs.map (·.1)).Nodup) {k v : Int} (h : (k, v) ∈ kvs) : dgetI kvs k = some v := by
  induction kvs with
  | nil => cases h
  | cons p r ih =>
    rw [List.map_cons, List.nodup_cons] at nd
    unfold dgetI
    rcases List.mem_cons.mp h with e | e
    · rw [← e]
      simp
    · have : p.1 ≠ k := fun z => nd.1 (List.mem_map.mpr ⟨_, e, z.symm⟩)
      rw [if_neg this]
      exact ih nd.2 e
theorem dgetI_isSome {kvs : List (Int × Int)} {k : Int} : (dgetI kvs k).isSome = decide (k ∈ kvs.map (·.1)) := by
  induction kvs with
  | nil => rfl
  | cons p r ih =>
    unfold dgetI
    rw [List.map_cons]
    by_cases e : p.1 = k
    · rw [if_pos e]
      simp [e]
    · rw [if_neg e, ih]
      have : ¬ k = p.1 := fun z => e z.symm
      simp only [List.mem_cons, this, false_or]
def add1 (m : Int) (kvs : List (Int × Int)) (x : Int) : List (Int × Int) := if (dgetI kvs x).isSome = true then kvs else kvs ++ [(x, m)]
theorem mem_add1 {m : Int} {kvs : List (Int × Int)} {x : Int} {p : Int × Int} : p ∈ add1 m kvs x ↔ p ∈ kvs ∨ (p = (x, m) ∧ x ∉ kvs.map (·.1)) := by
  unfold add1
  rw [dgetI_isSome]
  by_cases h : x ∈ kvs.map (·.1)
  · rw [if_pos (by simpa using h)]
    exact ⟨.inl, fun z => z.elim id fun z => absurd h z.2⟩
  · rw [if_neg (by simpa using h), List.mem_append, List.mem_singleton]
    exact ⟨fun z => z.imp id fun z => ⟨z, h⟩, fun z => z.imp id fun z => z.1⟩
theorem add1_key {m : Int} {kvs : List (Int × Int)} {x : Int} : x ∈ (add1 m kvs x).map (·.1) := by
  by_cases h : x ∈ kvs.map (·.1)
  · obtain ⟨p, a, b⟩ := List.mem_map.mp h
    exact List.mem_map.mpr ⟨p, mem_add1.mpr (.inl a), b⟩
  · exact List.mem_map.mpr ⟨(x, m), mem_add1.mpr (.inr ⟨rfl, h⟩), rfl⟩
theorem add1_nd {m : Int} {kvs : List (Int × Int)} {x : Int} (h : (kvs.map (·.1)).Nodup) : ((add1 m kvs x).map (·.1)).Nodup := by
  unfold add1
  rw [dgetI_isSome]
  split
  · exact h
  · rename_i q
    have q : x ∉ kvs.map (·.1) := by simpa using q
    rw [List.map_append, List.nodup_append]
    refine ⟨h, by simp, fun a ha b hb e => ?_⟩
    simp at hb
    subst hb
    subst e
    exact q ha
/-- putting what is there, or anew -/
theorem put_add {kvs : List (Int × Int)} (nd : (kvs.map (·.1)).Nodup) (x m : Int) : putI kvs x ((dgetI kvs x).getD m) = add1 m kvs x := by
  have e0 : (kvs.any fun p => decide (p.1 = x)) = decide (x ∈ kvs.map (·.1)) := by
    rw [Bool.eq_iff_iff]
    simp only [List.any_eq_true, decide_eq_true_eq, List.mem_map]
  unfold putI add1
  rw [e0, dgetI_isSome]
  by_cases h : x ∈ kvs.map (·.1)
  · rw [if_pos (by simpa using h), if_pos (by simpa using h)]
    obtain ⟨p, hp, rfl⟩ := List.mem_map.mp h
    rw [dgetI_of nd (k := p.1) (v := p.2) hp]
    have : ∀ q ∈ kvs, (if q.1 = p.1 then (q.1, (some p.2).getD m) else q) = q := fun q hq => by
      split
      · rename_i e
        have a := dgetI_of nd (k := p.1) (v := p.2) hp
        have b := dgetI_of nd (k := q.1) (v := q.2) hq
        rw [e, a] at b
        exact Prod.ext rfl (Option.some.inj b)
      · rfl
    rw [List.map_congr_left this, List.map_id']
  · rw [if_neg (by simpa using h), if_neg (by simpa using h)]
    have : dgetI kvs x = none := by
      cases q : dgetI kvs x with
      | none => rfl
      | some v =>
        have := dgetI_isSome (kvs := kvs) (k := x)
        rw [q] at this
        simp at this
        exact absurd this (by simpa using h)
    rw [this]
    rfl
/-- what d turns lead to -/
inductive Reach (L s a : Int) : Nat → Int → Prop where
  | zero : Reach L s a 0 a
  | up {d : Nat} {x : Int} : Reach L s a d x → Reach L s a (d + 1) (min (x + s) L)
  | dn {d : Nat} {x : Int} : Reach L s a d x → Reach L s a (d + 1) (max (x - s) 0)
def nbs (L s x : Int) : List Int := [min (x + s) L, max (x - s) 0]
theorem Reach.nb {L s a : Int} {d : Nat} {x y : Int} (h : Reach L s a d x) (hy : y ∈ nbs L s x) : Reach L s a (d + 1) y := by
  unfold nbs at hy
  simp only [List.mem_cons, List.not_mem_nil, or_false] at hy
  rcases hy with rfl | rfl
  · exact h.up
  · exact h.dn
theorem Reach.inv {L s a : Int} {d : Nat} {y : Int} (h : Reach L s a (d + 1) y) : ∃ x, Reach L s a d x ∧ y ∈ nbs L s x := by
  cases h with
  | up h => exact ⟨_, h, by simp [nbs]⟩
  | dn h => exact ⟨_, h, by simp [nbs]⟩
theorem Reach.bd {L s a : Int} (ha : 0 ≤ a) (ha2 : a ≤ L) (hs : 0 ≤ s) {d : Nat} {x : Int} (h : Reach L s a d x) : 0 ≤ x ∧ x ≤ L := by
  induction h with
  | zero => exact ⟨ha, ha2⟩
  | up _ ih => omega
  | dn _ ih => omega
def rowsAt (kvs : List (Int × Int)) (m : Int) : List Int := (kvs.filter fun p => decide (p.2 = m)).map (·.1)
theorem mem_rowsAt {kvs : List (Int × Int)} {m x : Int} : x ∈ rowsAt kvs m ↔ (x, m) ∈ kvs := by
  unfold rowsAt
  simp only [List.mem_map, List.mem_filter, decide_eq_true_eq]
  constructor
  · rintro ⟨p, ⟨h1, h2⟩, rfl⟩
    rw [← h2]
    exact h1
  · intro h
    exact ⟨_, ⟨h, rfl⟩, rfl⟩
/-- all is found that m turns lead to -/
structure Bfs (L s a : Int) (kvs : List (Int × Int)) (m : Nat) : Prop where
  nd : (kvs.map (·.1)).Nodup
  bd : ∀ p ∈ kvs, 0 ≤ p.1 ∧ p.1 ≤ L
  vs : ∀ p ∈ kvs, ∃ d : Nat, p.2 = d ∧ d ≤ m ∧ Reach L s a d p.1
  all : ∀ (d : Nat) (x : Int), d ≤ m → Reach L s a d x → ∃ d' : Nat, d' ≤ d ∧ (x, (d' : Int)) ∈ kvs
theorem Bfs.start {L s a : Int} (ha : 0 ≤ a) (ha2 : a ≤ L) : Bfs L s a [(a, 0)] 0 where
  nd := by simp
  bd := fun p hp => by simp at hp; subst hp; exact ⟨ha, ha2⟩
  vs := fun p hp => by simp at hp; subst hp; exact ⟨0, rfl, Nat.le_refl _, .zero⟩
  all := fun d x hd h => by
    have : d = 0 := by omega
    subst this
    cases h
    exact ⟨0, Nat.le_refl _, by simp⟩
theorem Bfs.len {L s a : Int} {kvs : List (Int × Int)} {m : Nat} (h : Bfs L s a kvs m) (hL : 0 ≤ L) : kvs.length ≤ L.toNat + 1 := by
  have := nodup_len (L.toNat + 1) (kvs.map (·.1)) h.nd fun k hk => by
    obtain ⟨p, hp, rfl⟩ := List.mem_map.mp hk
    have := h.bd p hp
    omega
  simpa using this
/-- one row's neighbours -/
def row1 (L s m : Int) (kvs : List (Int × Int)) (x : Int) : List (Int × Int) := add1 m (add1 m kvs (min (x + s) L)) (max (x - s) 0)
def lev (L s m : Int) (kvs : List (Int × Int)) (rows : List Int) : List (Int × Int) := rows.foldl (row1 L s m) kvs
/-- within a round -/
structure Mid (L s a : Int) (k0 kvs : List (Int × Int)) (m : Nat) : Prop where
  nd : (kvs.map (·.1)).Nodup
  bd : ∀ p ∈ kvs, 0 ≤ p.1 ∧ p.1 ≤ L
  vs : ∀ p ∈ kvs, ∃ d : Nat, p.2 = d ∧ d ≤ m + 1 ∧ Reach L s a d p.1
  sub : ∀ p ∈ k0, p ∈ kvs
theorem Mid.add {L s a : Int} {k0 kvs : List (Int × Int)} {m : Nat} (h : Mid L s a k0 kvs m) (ha : 0 ≤ a) (ha2 : a ≤ L) (hs : 0 ≤ s) {x y : Int} (hx : Reach L s a m x) (hy : y ∈ nbs L s x) : Mid L s a k0 (add1 ((m : Int) + 1) kvs y) m where
  nd := add1_nd h.nd
  bd := fun p hp => by
    rcases mem_add1.mp hp with z | ⟨z, _⟩
    · exact h.bd p z
    · subst z
      exact (hx.nb hy).bd ha ha2 hs
  vs := fun p hp => by
    rcases mem_add1.mp hp with z | ⟨z, _⟩
    · exact h.vs p z
    · subst z
      exact ⟨m + 1, rfl, Nat.le_refl _, hx.nb hy⟩
  sub := fun p hp => mem_add1.mpr (.inl (h.sub p hp))
theorem add1_sub {m : Int} {kvs : List (Int × Int)} {x : Int} {k : Int} (h : k ∈ kvs.map (·.1)) : k ∈ (add1 m kvs x).map (·.1) := by
  obtain ⟨p, a, b⟩ := List.mem_map.mp h
  exact List.mem_map.mpr ⟨p, mem_add1.mpr (.inl a), b⟩
theorem row1_sub {L s m : Int} {kvs : List (Int × Int)} {x : Int} {k : Int} (h : k ∈ kvs.map (·.1)) : k ∈ (row1 L s m kvs x).map (·.1) := add1_sub (add1_sub h)
theorem lev_sub {L s m : Int} : ∀ {rows : List Int} {kvs : List (Int × Int)} {k : Int}, k ∈ kvs.map (·.1) → k ∈ (lev L s m kvs rows).map (·.1)
  | [], _, _, h => h
  | x :: r, kvs, k, h => lev_sub (rows := r) (row1_sub h)
theorem Mid.row {L s a : Int} {k0 kvs : List (Int × Int)} {m : Nat} (h : Mid L s a k0 kvs m) (ha : 0 ≤ a) (ha2 : a ≤ L) (hs : 0 ≤ s) {x : Int} (hx : Reach L s a m x) : Mid L s a k0 (row1 L s ((m : Int) + 1) kvs x) m :=
  (h.add ha ha2 hs hx (y := min (x + s) L) (by simp [nbs])).add ha ha2 hs hx (y := max (x - s) 0) (by simp [nbs])
theorem Mid.lev {L s a : Int} {k0 : List (Int × Int)} {m : Nat} (ha : 0 ≤ a) (ha2 : a ≤ L) (hs : 0 ≤ s) : ∀ {rows : List Int} {kvs : List (Int × Int)}, Mid L s a k0 kvs m → (∀ x ∈ rows, Reach L s a m x) → Mid L s a k0 (lev L s ((m : Int) + 1) kvs rows) m ∧ ∀ x ∈ rows, ∀ y ∈ nbs L s x, y ∈ (lev L s ((m : Int) + 1) kvs rows).map (·.1)
  | [], kvs, h, _ => ⟨h, fun x hx => by simp at hx⟩
  | x :: r, kvs, h, hr => by
    obtain ⟨a1, a2⟩ := Mid.lev ha ha2 hs (rows := r) (h.row ha ha2 hs (hr x List.mem_cons_self)) fun y hy => hr y (List.mem_cons_of_mem _ hy)
    refine ⟨a1, fun z hz y hy => ?_⟩
    rcases List.mem_cons.mp hz with rfl | hz
    · refine lev_sub (rows := r) (kvs := row1 L s ((m : Int) + 1) kvs z) ?_
      unfold nbs at hy
      simp only [List.mem_cons, List.not_mem_nil, or_false] at hy
      rcases hy with rfl | rfl
      · exact add1_sub add1_key
      · exact add1_key
    · exact a2 z hz y hy
theorem Bfs.rows {L s a : Int} {kvs : List (Int × Int)} {m : Nat} (h : Bfs L s a kvs m) : ∀ x ∈ rowsAt kvs m, Reach L s a m x := fun x hx => by
  obtain ⟨d, e, _, q⟩ := h.vs _ (mem_rowsAt.mp hx)
  have : d = m := by simp at e; omega
  rw [← this]
  exact q
theorem Bfs.next {L s a : Int} {kvs : List (Int × Int)} {m : Nat} (h : Bfs L s a kvs m) (ha : 0 ≤ a) (ha2 : a ≤ L) (hs : 0 ≤ s) : Bfs L s a (lev L s ((m : Int) + 1) kvs (rowsAt kvs m)) (m + 1) := by
  have mid : Mid L s a kvs kvs m := ⟨h.nd, h.bd, fun p hp => by
    obtain ⟨d, a, b, c⟩ := h.vs p hp
    exact ⟨d, a, by omega, c⟩, fun _ h => h⟩
  obtain ⟨a1, a2⟩ := Mid.lev ha ha2 hs mid h.rows
  refine ⟨a1.nd, a1.bd, a1.vs, fun d x hd hx => ?_⟩
  by_cases e : d ≤ m
  · obtain ⟨d', q1, q2⟩ := h.all d x e hx
    exact ⟨d', q1, a1.sub _ q2⟩
  · have e : d = m + 1 := by omega
    subst e
    obtain ⟨y, hy, hxy⟩ := hx.inv
    obtain ⟨d', q1, q2⟩ := h.all m y (Nat.le_refl _) hy
    by_cases e : d' < m
    · obtain ⟨d2, e2, _, r2⟩ := h.vs _ q2
      have : d2 = d' := by simp at e2; omega
      subst this
      obtain ⟨d3, w1, w2⟩ := h.all (d2 + 1) x (by omega) (r2.nb hxy)
      exact ⟨d3, by omega, a1.sub _ w2⟩
    · have : d' = m := by omega
      subst this
      have := a2 y (mem_rowsAt.mpr q2) x hxy
      obtain ⟨p, hp, e⟩ := List.mem_map.mp this
      obtain ⟨d3, w1, w2, _⟩ := a1.vs p hp
      refine ⟨d3, w2, ?_⟩
      rw [← w1, ← e]
      exact hp
/-- all is found -/
structure Far (L s a : Int) (kvs : List (Int × Int)) : Prop where
  nd : (kvs.map (·.1)).Nodup
  bd : ∀ p ∈ kvs, 0 ≤ p.1 ∧ p.1 ≤ L
  vs : ∀ p ∈ kvs, ∃ d : Nat, p.2 = d ∧ Reach L s a d p.1
  all : ∀ (d : Nat) (x : Int), Reach L s a d x → ∃ d' : Nat, d' ≤ d ∧ (x, (d' : Int)) ∈ kvs
  len : kvs.length ≤ L.toNat + 1
theorem Bfs.far {L s a : Int} {kvs : List (Int × Int)} {m : Nat} (h : Bfs L s a kvs m) (hL : 0 ≤ L) (e : rowsAt kvs m = []) : Far L s a kvs := by
  refine ⟨h.nd, h.bd, fun p hp => ?_, fun d => ?_, h.len hL⟩
  · obtain ⟨d, a, b, c⟩ := h.vs p hp
    exact ⟨d, a, c⟩
  · induction d with
    | zero => exact fun x hx => h.all 0 x (Nat.zero_le _) hx
    | succ d ih =>
      intro x hx
      obtain ⟨y, hy, hxy⟩ := hx.inv
      obtain ⟨d', q1, q2⟩ := ih y hy
      obtain ⟨d2, e2, b2, r2⟩ := h.vs _ q2
      have : d2 = d' := by simp at e2; omega
      subst this
      have : d2 ≠ m := fun z => by
        subst z
        have := mem_rowsAt.mpr q2
        rw [e] at this
        simp at this
      obtain ⟨d3, w1, w2⟩ := h.all (d2 + 1) x (by omega) (r2.nb hxy)
      exact ⟨d3, by omega, w2⟩
/-- new rows stand behind -/
theorem lev_more {L s m : Int} : ∀ {rows : List Int} {kvs : List (Int × Int)}, (lev L s m kvs rows).length = kvs.length ∨ kvs.length < (lev L s m kvs rows).length
  | [], kvs => .inl rfl
  | x :: r, kvs => by
    have a : ∀ (kvs : List (Int × Int)) (y : Int), kvs.length ≤ (add1 m kvs y).length := fun kvs y => by
      unfold add1
      split
      · exact Nat.le_refl _
      · simp
    have b := a kvs (min (x + s) L)
    have c := a (add1 m kvs (min (x + s) L)) (max (x - s) 0)
    have d := lev_more (L := L) (s := s) (m := m) (rows := r) (kvs := row1 L s m kvs x)
    have e : lev L s m kvs (x :: r) = lev L s m (row1 L s m kvs x) r := rfl
    have f : (row1 L s m kvs x).length = (add1 m (add1 m kvs (min (x + s) L)) (max (x - s) 0)).length := rfl
    rw [e]
    omega
end Pg

namespace Pg
open PySem L2
/-! ### pages: the rounds -/
def extE (k0 : List (Int × Int)) (m : Int) (e : List Int) : List (Int × Int) := k0 ++ e.map fun x => (x, m)
def addE (k0 : List (Int × Int)) (m : Int) (e : List Int) (x : Int) : List Int := if (dgetI (extE k0 m e) x).isSome = true then e else e ++ [x]
theorem add_extE (k0 : List (Int × Int)) (m : Int) (e : List Int) (x : Int) : add1 m (extE k0 m e) x = extE k0 m (addE k0 m e x) := by
  unfold add1 addE
  split
  · rfl
  · unfold extE
    rw [List.map_append, List.append_assoc]
    rfl
def rowE (L s : Int) (k0 : List (Int × Int)) (m : Int) (e : List Int) (x : Int) : List Int := addE k0 m (addE k0 m e (min (x + s) L)) (max (x - s) 0)
theorem row_extE (L s : Int) (k0 : List (Int × Int)) (m : Int) (e : List Int) (x : Int) : row1 L s m (extE k0 m e) x = extE k0 m (rowE L s k0 m e x) := by
  unfold row1 rowE
  rw [add_extE, add_extE]
theorem lev_extE (L s : Int) (k0 : List (Int × Int)) (m : Int) : ∀ (rows : List Int) (e : List Int), lev L s m (extE k0 m e) rows = extE k0 m (rows.foldl (rowE L s k0 m) e)
  | [], e => rfl
  | x :: r, e => by
    show lev L s m (row1 L s m (extE k0 m e) x) r = _
    rw [row_extE, lev_extE L s k0 m r]
    rfl
def moreE (L s : Int) (k0 : List (Int × Int)) (m : Int) (rows : List Int) : List Int := rows.foldl (rowE L s k0 m) []
theorem lev_more' (L s : Int) (k0 : List (Int × Int)) (m : Int) (rows : List Int) : lev L s m k0 rows = extE k0 m (moreE L s k0 m rows) := by
  have := lev_extE L s k0 m rows []
  have e : extE k0 m [] = k0 := by simp [extE]
  rw [e] at this
  exact this
theorem addE_len (k0 : List (Int × Int)) (m : Int) (e : List Int) (x : Int) : (addE k0 m e x).length ≤ e.length + 1 := by
  unfold addE
  split
  · omega
  · simp
theorem rowE_len (L s : Int) (k0 : List (Int × Int)) (m : Int) (e : List Int) (x : Int) : (rowE L s k0 m e x).length ≤ e.length + 2 := by
  have a := addE_len k0 m e (min (x + s) L)
  have b := addE_len k0 m (addE k0 m e (min (x + s) L)) (max (x - s) 0)
  have c : (rowE L s k0 m e x).length = (addE k0 m (addE k0 m e (min (x + s) L)) (max (x - s) 0)).length := rfl
  omega
theorem fold_len (L s : Int) (k0 : List (Int × Int)) (m : Int) : ∀ (rows : List Int) (e : List Int), (rows.foldl (rowE L s k0 m) e).length ≤ e.length + 2 * rows.length
  | [], e => by simp
  | x :: r, e => by
    have a := fold_len L s k0 m r (rowE L s k0 m e x)
    have b := rowE_len L s k0 m e x
    rw [List.foldl_cons, List.length_cons]
    omega
theorem rowsAt_ext {k0 : List (Int × Int)} {m : Int} (e : List Int) (h : ∀ p ∈ k0, p.2 ≠ m) : rowsAt (extE k0 m e) m = e := by
  unfold rowsAt extE
  rw [List.filter_append, List.filter_eq_nil_iff.mpr (fun p hp => by simpa using h p hp), List.nil_append, List.filter_eq_self.mpr (fun p hp => by
    obtain ⟨x, _, rfl⟩ := List.mem_map.mp hp
    simp)]
  rw [List.map_map]
  exact List.map_id' e
theorem Bfs.none {L s a : Int} {kvs : List (Int × Int)} {m : Nat} (h : Bfs L s a kvs m) : ∀ p ∈ kvs, p.2 ≠ (m : Int) + 1 := fun p hp e => by
  obtain ⟨d, a, b, _⟩ := h.vs p hp
  omega
def bfsR (L s : Int) : Nat → List (Int × Int) → Int → List (Int × Int)
  | 0, kvs, _ => kvs
  | n + 1, kvs, m => if rowsAt kvs m = [] then kvs else bfsR L s n (lev L s (m + 1) kvs (rowsAt kvs m)) (m + 1)
/-- rounds enough -/
def Enough (L : Int) (kvs : List (Int × Int)) (m : Int) (n : Nat) : Prop := (rowsAt kvs m = [] ∧ 1 ≤ n) ∨ L.toNat + 1 - kvs.length + 2 ≤ n
theorem Bfs.enough {L s a : Int} {kvs : List (Int × Int)} {m n : Nat} (h : Bfs L s a kvs m) (ha : 0 ≤ a) (ha2 : a ≤ L) (hs : 0 ≤ s) (hr : rowsAt kvs m ≠ []) (e : Enough L kvs m (n + 1)) : Enough L (lev L s ((m : Int) + 1) kvs (rowsAt kvs m)) ((m : Int) + 1) n := by
  rcases e with ⟨z, _⟩ | e
  · exact absurd z hr
  · have hn := (h.next ha ha2 hs).len (by omega)
    have hk := h.len (by omega)
    rw [lev_more'] at hn ⊢
    cases q : moreE L s kvs ((m : Int) + 1) (rowsAt kvs m) with
    | nil => exact .inl ⟨by rw [rowsAt_ext _ h.none], by omega⟩
    | cons x r =>
      right
      rw [q] at hn
      have : (extE kvs ((m : Int) + 1) (x :: r)).length = kvs.length + (r.length + 1) := by simp [extE]
      omega
theorem bfs_far {L s a : Int} (ha : 0 ≤ a) (ha2 : a ≤ L) (hs : 0 ≤ s) : ∀ (n : Nat) {kvs : List (Int × Int)} {m : Nat}, Bfs L s a kvs m → Enough L kvs m n → Far L s a (bfsR L s n kvs m)
  | 0, kvs, m, h, e => by
    rcases e with ⟨_, z⟩ | z <;> omega
  | n + 1, kvs, m, h, e => by
    unfold bfsR
    by_cases q : rowsAt kvs (m : Int) = []
    · rw [if_pos q]
      exact h.far (by omega) q
    · rw [if_neg q]
      exact bfs_far ha ha2 hs n (h.next ha ha2 hs) (h.enough ha ha2 hs q e)
def bfs (L s a : Int) : List (Int × Int) := bfsR L s 100 [(a, 0)] 0
theorem enough0 {L a : Int} (h : L ≤ 98) : Enough L [(a, 0)] 0 100 := .inr (by simp; omega)
theorem far_bfs {L s a : Int} (ha : 0 ≤ a) (ha2 : a ≤ L) (hs : 0 ≤ s) (hL : L ≤ 98) : Far L s a (bfs L s a) := bfs_far ha ha2 hs 100 (Bfs.start ha ha2) (enough0 hL)
/-- the least number of turns -/
theorem Far.get {L s a : Int} {kvs : List (Int × Int)} (h : Far L s a kvs) {x : Int} {d : Nat} (r : Reach L s a d x) (least : ∀ d', Reach L s a d' x → d ≤ d') : dgetI kvs x = some (d : Int) := by
  obtain ⟨d', q1, q2⟩ := h.all d x r
  obtain ⟨d2, e2, r2⟩ := h.vs _ q2
  have e2 : (d' : Int) = d2 := e2
  have := least d2 r2
  have : d' = d := by omega
  rw [← this]
  exact dgetI_of h.nd q2
theorem Far.get_inv {L s a : Int} {kvs : List (Int × Int)} (h : Far L s a kvs) {x v : Int} (e : dgetI kvs x = some v) : ∃ d : Nat, v = d ∧ Reach L s a d x ∧ ∀ d', Reach L s a d' x → d ≤ d' := by
  obtain ⟨d, e1, r⟩ := h.vs _ (dgetI_mem e)
  refine ⟨d, e1, r, fun d' r' => ?_⟩
  obtain ⟨d3, q1, q2⟩ := h.all d' x r'
  have := dgetI_of h.nd q2
  rw [e] at this
  have : v = d3 := Option.some.inj this
  have e1 : v = d := e1
  omega
theorem Far.get_none {L s a : Int} {kvs : List (Int × Int)} (h : Far L s a kvs) {x : Int} : dgetI kvs x = none ↔ ∀ d, ¬ Reach L s a d x := by
  constructor
  · intro e d r
    obtain ⟨d', _, q2⟩ := h.all d x r
    rw [dgetI_of h.nd q2] at e
    cases e
  · intro e
    cases q : dgetI kvs x with
    | none => rfl
    | some v =>
      obtain ⟨d, _, r, _⟩ := h.get_inv q
      exact absurd r (e d)
theorem Far.key {L s a : Int} {kvs : List (Int × Int)} (h : Far L s a kvs) {x : Int} : x ∈ kvs.map (·.1) ↔ ∃ d, Reach L s a d x := by
  constructor
  · intro hx
    obtain ⟨p, hp, rfl⟩ := List.mem_map.mp hx
    obtain ⟨d, _, r⟩ := h.vs p hp
    exact ⟨d, r⟩
  · rintro ⟨d, r⟩
    obtain ⟨d', _, q⟩ := h.all d x r
    exact List.mem_map.mpr ⟨_, q, rfl⟩
/-! the readings -/
@[simp] theorem thaw1_owd (kvs : List (Int × Int)) : thaw1 (.owd kvs) = .dat (.dic false kvs) := rfl
@[simp] theorem din_dic (b : Bool) (k : Int) (kvs : List (Int × Int)) : dinD true (.int k) (.dic b kvs) = some (.bl (!(dgetI kvs k).isSome)) := rfl
@[simp] theorem din_dic' (b : Bool) (k : Int) (kvs : List (Int × Int)) : dinD false (.int k) (.dic b kvs) = some (.bl (dgetI kvs k).isSome) := rfl
@[simp] theorem eGet1_eq (f g : ME) (st : Store) : eGet1 f g st = (f st).bind fun x => onDic x fun kvs => (g st).bind fun y => getD1 kvs y := rfl
@[simp] theorem eGet2_eq (f g h : ME) (st : Store) : eGet2 f g h st = (f st).bind fun x => onDic x fun kvs => (g st).bind fun y => (h st).bind fun z => getD2 kvs y z := rfl
@[simp] theorem onDic_dic (b : Bool) (kvs : List (Int × Int)) (g : List (Int × Int) → R D) : onDic (.dic b kvs) g = g kvs := rfl
/-- None, or the number -/
def optD : Option Int → D
  | some v => .int v
  | none => .non
@[simp] theorem getD1_int (kvs : List (Int × Int)) (k : Int) : getD1 kvs (.int k) = .ok (optD (dgetI kvs k)) := by
  unfold getD1 optD
  cases q : dgetI kvs k <;> simp only [q]
@[simp] theorem getD2_int (kvs : List (Int × Int)) (k d : Int) : getD2 kvs (.int k) (.int d) = .ok (.int ((dgetI kvs k).getD d)) := rfl
theorem ne_opt (o : Option Int) : neD (optD o) (optD o) = some (.bl false) := by cases o <;> simp [optD]
theorem put_ok {i : Nat} {fk fv : ME} {st : Store} {kvs : List (Int × Int)} {k v : Int} (h : st[i]? = some (.owd kvs)) (hv : fv (thaw st) = .ok (.int v)) (hk : fk (thaw st) = .ok (.int k)) (hl : kvs.length < 100000) : mPut i fk fv st = .nx (st.set i (.owd (putI kvs k v))) := by
  unfold mPut ifOwd putTo
  rw [h, hv, hk]
  simp only [thn_ok, h]
  rw [if_pos hl]
theorem put_new {kvs : List (Int × Int)} {x : Int} (m : Int) (h : (dgetI kvs x).isSome = false) : putI kvs x m = kvs ++ [(x, m)] := by
  rw [dgetI_isSome] at h
  have h : x ∉ kvs.map (·.1) := by simpa using h
  unfold putI
  rw [if_neg]
  intro z
  obtain ⟨p, hp, e⟩ := List.any_eq_true.mp z
  exact h (List.mem_map.mpr ⟨p, hp, of_decide_eq_true e⟩)
theorem sort_dic (b : Bool) (kvs : List (Int × Int)) (h : kvs.length < 64) : sortDB [.dic b kvs] = some (Ls (sortI (kvs.map (·.1)))) := by
  show (if _ then _ else _) = _
  rw [if_pos h]
  rfl
end Pg

namespace Pg
open PySem L2
/-! ### pages: how many turns -/
theorem cdiv_le {a s n : Int} (hs : 0 < s) : (a + s - 1) / s ≤ n ↔ a ≤ n * s := by
  rw [← Int.lt_add_one_iff, Int.ediv_lt_iff_lt_mul hs, Int.add_mul]
  omega
theorem cdiv_nn {a s : Int} (hs : 0 < s) (ha : 0 ≤ a) : 0 ≤ (a + s - 1) / s := Int.ediv_nonneg (by omega) (by omega)
theorem succ_mul (d : Nat) (s : Int) : ((d + 1 : Nat) : Int) * s = d * s + s := by
  rw [show ((d + 1 : Nat) : Int) = (d : Int) + 1 from rfl, Int.add_mul, Int.one_mul]
theorem Reach.up_le {L s a : Int} (hs : 0 ≤ s) (ha : 0 ≤ a) (ha2 : a ≤ L) {d : Nat} {x : Int} (h : Reach L s a d x) : x ≤ a + d * s ∧ a - d * s ≤ x := by
  induction h with
  | zero => simp
  | @up d x h ih =>
    have := succ_mul d s
    have := Int.mul_nonneg (show (0 : Int) ≤ d by omega) hs
    omega
  | @dn d x h ih =>
    have := succ_mul d s
    have := Int.mul_nonneg (show (0 : Int) ≤ d by omega) hs
    omega
theorem Reach.ups {L s a : Int} (hs : 0 ≤ s) (ha2 : a ≤ L) : ∀ n : Nat, Reach L s a n (min (a + n * s) L)
  | 0 => by
    have e : min (a + ((0 : Nat) : Int) * s) L = a := by simp; omega
    rw [e]
    exact .zero
  | n + 1 => by
    have e : min (a + ((n + 1 : Nat) : Int) * s) L = min (min (a + n * s) L + s) L := by
      have := succ_mul n s
      omega
    rw [e]
    exact (Reach.ups hs ha2 n).up
theorem Reach.downs {L s a : Int} (hs : 0 ≤ s) {d : Nat} {x : Int} (h : Reach L s a d x) (hx : 0 ≤ x) : ∀ n : Nat, Reach L s a (d + n) (max (x - n * s) 0)
  | 0 => by
    have e : max (x - ((0 : Nat) : Int) * s) 0 = x := by simp; omega
    rw [e]
    exact h
  | n + 1 => by
    have e : max (x - ((n + 1 : Nat) : Int) * s) 0 = max (max (x - n * s) 0 - s) 0 := by
      have := succ_mul n s
      omega
    rw [e]
    exact (Reach.downs hs h hx n).dn
theorem Reach.form {L s : Int} (hs : 1 ≤ s) (hL : 0 ≤ L) {d : Nat} {x : Int} (h : Reach L s 0 d x) : (∃ i : Nat, i ≤ d ∧ x = i * s ∧ x ≤ L) ∨ ∃ j : Nat, j ≤ d ∧ x = L - j * s ∧ 0 ≤ x ∧ L ≤ d * s - j * s := by
  induction h with
  | zero => exact .inl ⟨0, Nat.le_refl _, by simp, hL⟩
  | @up d x h ih =>
    have sd := succ_mul d s
    have sd' : ((d : Int) + 1) * s = d * s + s := sd
    rcases ih with ⟨i, h1, h2, h3⟩ | ⟨j, h1, h2, h3, h4⟩
    · have si := succ_mul i s
      by_cases q : x + s ≤ L
      · exact .inl ⟨i + 1, by omega, by omega, by omega⟩
      · have : (i : Int) * s ≤ d * s := Int.mul_le_mul_of_nonneg_right (by omega) (by omega)
        exact .inr ⟨0, by omega, by simp; omega, by omega, by simp; omega⟩
    · match j with
      | 0 => exact .inr ⟨0, by omega, by simp at h2 ⊢; omega, by omega, by simp at h4 ⊢; omega⟩
      | j + 1 =>
        have sj := succ_mul j s
        exact .inr ⟨j, by omega, by have := Int.mul_nonneg (show (0 : Int) ≤ j by omega) (show 0 ≤ s by omega); omega, by omega, by omega⟩
  | @dn d x h ih =>
    have sd := succ_mul d s
    rcases ih with ⟨i, h1, h2, h3⟩ | ⟨j, h1, h2, h3, h4⟩
    · match i with
      | 0 => exact .inl ⟨0, by omega, by simp at h2 ⊢; omega, by omega⟩
      | i + 1 =>
        have si := succ_mul i s
        have := Int.mul_nonneg (show (0 : Int) ≤ i by omega) (show 0 ≤ s by omega)
        exact .inl ⟨i, by omega, by omega, by omega⟩
    · have sj := succ_mul j s
      by_cases q : s ≤ x
      · exact .inr ⟨j + 1, by omega, by omega, by omega, by omega⟩
      · exact .inl ⟨0, by omega, by simp; omega, by omega⟩
theorem mod_iff {x s : Int} (hs : 0 < s) (hx : 0 ≤ x) : x % s = 0 ↔ ∃ i : Nat, x = i * s := by
  constructor
  · intro h
    have e := Int.mul_ediv_add_emod x s
    have := Int.ediv_nonneg hx (show 0 ≤ s by omega)
    refine ⟨(x / s).toNat, ?_⟩
    rw [show ((x / s).toNat : Int) = x / s by omega, Int.mul_comm]
    omega
  · rintro ⟨i, rfl⟩
    exact Int.mul_emod_left _ _
theorem mul_lt {i j : Nat} {s : Int} (hs : 0 < s) (h : (i : Int) * s ≤ j * s) : i ≤ j := by
  have := Int.le_of_mul_le_mul_right h hs
  omega
section
variable {L s : Int}
/-- the rows that are reached from 0 -/
theorem reach0 (hs : 1 ≤ s) (hL : 0 ≤ L) {x : Int} : (∃ d, Reach L s 0 d x) ↔ (0 ≤ x ∧ x ≤ L) ∧ (x % s = 0 ∨ (L - x) % s = 0) := by
  constructor
  · rintro ⟨d, h⟩
    have b := h.bd (by omega) hL (by omega)
    refine ⟨b, ?_⟩
    rcases h.form hs hL with ⟨i, _, e, _⟩ | ⟨j, _, e, _, _⟩
    · exact .inl ((mod_iff (by omega) b.1).mpr ⟨i, e⟩)
    · exact .inr ((mod_iff (by omega) (by omega)).mpr ⟨j, by omega⟩)
  · rintro ⟨⟨h0, h1⟩, h | h⟩
    · obtain ⟨i, e⟩ := (mod_iff (by omega) h0).mp h
      have := Reach.ups (L := L) (s := s) (a := 0) (by omega) hL i
      rw [show min (0 + (i : Int) * s) L = x by omega] at this
      exact ⟨i, this⟩
    · obtain ⟨j, e⟩ := (mod_iff (by omega) (show 0 ≤ L - x by omega)).mp h
      have a := Reach.ups (L := L) (s := s) (a := 0) (by omega) hL L.toNat
      have : L * 1 ≤ L * s := Int.mul_le_mul_of_nonneg_left hs hL
      rw [show ((L.toNat : Nat) : Int) = L by omega, show min (0 + L * s) L = L by omega] at a
      have b := a.downs (by omega) hL j
      rw [show max (L - (j : Int) * s) 0 = x by omega] at b
      exact ⟨_, b⟩
theorem far_get {a : Int} (ha : 0 ≤ a) (ha2 : a ≤ L) (hs : 0 ≤ s) (hL : L ≤ 98) {x n : Int} (hn : 0 ≤ n) (r : Reach L s a n.toNat x) (least : ∀ d', Reach L s a d' x → n ≤ d') : dgetI (bfs L s a) x = some n := by
  have := (far_bfs ha ha2 hs hL).get r fun d' h => by have := least d' h; omega
  rw [this, show ((n.toNat : Nat) : Int) = n by omega]
theorem get_mult (hs : 1 ≤ s) (hL : 0 ≤ L) (hL2 : L ≤ 98) {x : Int} (h0 : 0 ≤ x) (h1 : x ≤ L) (h : x % s = 0) : dgetI (bfs L s 0) x = some (x / s) := by
  obtain ⟨i, e⟩ := (mod_iff (by omega) h0).mp h
  have eq : x / s = i := by rw [e]; exact Int.mul_ediv_cancel _ (by omega)
  rw [eq]
  refine far_get (by omega) hL (by omega) hL2 (by omega) ?_ fun d' h' => ?_
  · have := Reach.ups (L := L) (s := s) (a := 0) (by omega) hL i
    rw [show min (0 + (i : Int) * s) L = x by omega] at this
    rw [show ((i : Nat) : Int).toNat = i by omega]
    exact this
  · have := (h'.up_le (by omega) (by omega) hL).1
    have := mul_lt (show 0 < s by omega) (show (i : Int) * s ≤ d' * s by omega)
    omega
theorem get_other (hs : 1 ≤ s) (hL : 0 ≤ L) (hL2 : L ≤ 98) {x : Int} (h0 : 0 ≤ x) (h1 : x ≤ L) (h : x % s ≠ 0) (h2 : (L - x) % s = 0) : dgetI (bfs L s 0) x = some ((L + s - 1) / s + (L - x) / s) := by
  obtain ⟨j, e⟩ := (mod_iff (by omega) (show 0 ≤ L - x by omega)).mp h2
  have eq : (L - x) / s = j := by rw [e]; exact Int.mul_ediv_cancel _ (by omega)
  rw [eq]
  have c0 := cdiv_nn (a := L) (show 0 < s by omega) hL
  obtain ⟨c, hc⟩ : ∃ c : Nat, (c : Int) = (L + s - 1) / s := ⟨((L + s - 1) / s).toNat, by omega⟩
  have cl := (cdiv_le (a := L) (n := c) (show 0 < s by omega)).mp (by omega)
  refine far_get (by omega) hL (by omega) hL2 (by omega) ?_ fun d' h' => ?_
  · have a := Reach.ups (L := L) (s := s) (a := 0) (by omega) hL c
    rw [show min (0 + (c : Int) * s) L = L by omega] at a
    have b := a.downs (by omega) hL j
    rw [show max (L - (j : Int) * s) 0 = x by omega] at b
    rw [← hc, show ((c : Int) + (j : Int)).toNat = c + j by omega]
    exact b
  · rcases h'.form hs hL with ⟨i, _, e', _⟩ | ⟨j', hj, e', _, e4⟩
    · exact absurd ((mod_iff (by omega) h0).mpr ⟨i, e'⟩) h
    · have : j' = j := by
        have a := mul_lt (i := j') (j := j) (show 0 < s by omega) (by omega)
        have b := mul_lt (i := j) (j := j') (show 0 < s by omega) (by omega)
        omega
      subst this
      have := (cdiv_le (a := L) (s := s) (n := (d' : Int) - j') (by omega)).mpr (by rw [Int.sub_mul]; exact e4)
      omega
theorem get_none (hs : 1 ≤ s) (hL : 0 ≤ L) (hL2 : L ≤ 98) {x : Int} (h : ¬ (x % s = 0 ∨ (L - x) % s = 0)) : dgetI (bfs L s 0) x = none := by
  rw [(far_bfs (by omega) hL (by omega) hL2).get_none]
  exact fun d r => h ((reach0 hs hL).mp ⟨d, r⟩).2
theorem get_zero {a : Int} (hs : 1 ≤ s) (ha : 0 ≤ a) (ha2 : a ≤ L) (hL : L ≤ 98) : dgetI (bfs L s a) 0 = some ((a + s - 1) / s) := by
  have c0 := cdiv_nn (a := a) (show 0 < s by omega) ha
  obtain ⟨c, hc⟩ : ∃ c : Nat, (c : Int) = (a + s - 1) / s := ⟨((a + s - 1) / s).toNat, by omega⟩
  have cl := (cdiv_le (a := a) (n := c) (show 0 < s by omega)).mp (by omega)
  refine far_get ha ha2 (by omega) hL c0 ?_ fun d' h' => ?_
  · have b := (Reach.zero (L := L) (s := s) (a := a)).downs (by omega) ha c
    rw [show max (a - (c : Int) * s) 0 = 0 by omega, Nat.zero_add] at b
    rw [← hc, show ((c : Nat) : Int).toNat = c by omega]
    exact b
  · have := (h'.up_le (by omega) ha ha2).2
    exact (cdiv_le (by omega)).mpr (by omega)
theorem get_end {a : Int} (hs : 1 ≤ s) (ha : 0 ≤ a) (ha2 : a ≤ L) (hL : L ≤ 98) : dgetI (bfs L s a) L = some ((L - a + s - 1) / s) := by
  have c0 := cdiv_nn (a := L - a) (show 0 < s by omega) (by omega)
  obtain ⟨c, hc⟩ : ∃ c : Nat, (c : Int) = (L - a + s - 1) / s := ⟨((L - a + s - 1) / s).toNat, by omega⟩
  have cl := (cdiv_le (a := L - a) (n := c) (show 0 < s by omega)).mp (by omega)
  refine far_get ha ha2 (by omega) hL c0 ?_ fun d' h' => ?_
  · have b := Reach.ups (L := L) (s := s) (a := a) (by omega) ha2 c
    rw [show min (a + (c : Int) * s) L = L by omega] at b
    rw [← hc, show ((c : Nat) : Int).toNat = c by omega]
    exact b
  · have := (h'.up_le (by omega) ha ha2).1
    exact (cdiv_le (by omega)).mpr (by omega)
theorem get_self {a : Int} (hs : 1 ≤ s) (ha : 0 ≤ a) (ha2 : a ≤ L) (hL : L ≤ 98) : dgetI (bfs L s a) a = some 0 :=
  far_get ha ha2 (by omega) hL (by omega) .zero fun d' _ => by omega
/-- turns forward -/
theorem get_fwd {a t : Int} (hs : 1 ≤ s) (ha : 0 ≤ a) (ha2 : a ≤ L) (hL : L ≤ 98) (ht : 0 ≤ t) : ∃ m, dgetI (bfs L s a) (min (a + t * s) L) = some m ∧ 0 ≤ m ∧ m ≤ t ∧ (m = t ↔ (a + (t - 1) * s < L ∨ t = 0)) := by
  obtain ⟨n, rfl⟩ : ∃ n : Nat, t = n := ⟨t.toNat, by omega⟩
  have F := far_bfs ha ha2 (show 0 ≤ s by omega) hL
  have r := Reach.ups (L := L) (s := s) (a := a) (by omega) ha2 n
  cases q : dgetI (bfs L s a) (min (a + (n : Int) * s) L) with
  | none => exact absurd r (F.get_none.mp q n)
  | some m =>
    obtain ⟨d, e, r1, l1⟩ := F.get_inv q
    have dn := l1 n r
    refine ⟨m, rfl, by omega, by omega, ?_⟩
    rw [e]
    have b1 := (r1.up_le (by omega) ha ha2).1
    constructor
    · intro h
      by_cases z : n = 0
      · exact .inr (by omega)
      · left
        obtain ⟨k, rfl⟩ : ∃ k, n = k + 1 := ⟨n - 1, by omega⟩
        have sk := succ_mul k s
        have ek : ((k + 1 : Nat) : Int) - 1 = k := by omega
        rw [ek]
        refine Int.not_le.mp fun hle => ?_
        have r2 := Reach.ups (L := L) (s := s) (a := a) (by omega) ha2 k
        rw [show min (a + (k : Int) * s) L = min (a + ((k + 1 : Nat) : Int) * s) L by omega] at r2
        have := l1 k r2
        omega
    · rintro (h | h)
      · match n with
        | 0 => omega
        | k + 1 =>
          have sk := succ_mul k s
          have ek : ((k + 1 : Nat) : Int) - 1 = k := by omega
          rw [ek] at h
          have : k + 1 ≤ d := by
            refine Nat.not_lt.mp fun hd => ?_
            have := Int.mul_le_mul_of_nonneg_right (show (d : Int) ≤ k by omega) (show 0 ≤ s by omega)
            omega
          omega
      · omega
theorem keys_sorted (hs : 1 ≤ s) (hL : 0 ≤ L) (hL2 : L ≤ 98) : sortI ((bfs L s 0).map (·.1)) = (iota (L + 1)).filter fun x => decide (x % s = 0) || decide ((L - x) % s = 0) := by
  have F := far_bfs (L := L) (s := s) (a := 0) (by omega) hL (by omega) hL2
  apply sorted_ext
  · have h1 := sortI_sorted ((bfs L s 0).map (·.1))
    have h2 : (sortI ((bfs L s 0).map (·.1))).Nodup := (sortI_perm _).nodup_iff.mpr F.nd
    exact (h1.and h2).imp fun h => by omega
  · exact (iota_rise _).filter _
  · intro x
    rw [(sortI_perm _).mem_iff, F.key, reach0 hs hL, List.mem_filter, mem_iota]
    simp only [Bool.or_eq_true, decide_eq_true_eq]
    constructor
    · rintro ⟨⟨a, b⟩, c⟩
      exact ⟨⟨a, by omega⟩, c⟩
    · rintro ⟨⟨a, b⟩, c⟩
      exact ⟨⟨a, by omega⟩, c⟩
theorem rg3_mem {b c x : Int} (hc : 1 ≤ c) : x ∈ rg3L 0 b c ↔ 0 ≤ x ∧ x < b ∧ x % c = 0 := by
  unfold rg3L
  simp only [List.mem_map, List.mem_range]
  have key : ∀ i : Nat, i < rg3n 0 b c ↔ (i : Int) * c < b := fun i => by
    unfold rg3n
    have nn := Int.mul_nonneg (show (0 : Int) ≤ i by omega) (show 0 ≤ c by omega)
    split
    · have hd := Int.ediv_nonneg (show 0 ≤ b - 0 - 1 by omega) (show 0 ≤ c by omega)
      have e1 : (i < ((b - 0 - 1) / c + 1).toNat) ↔ (i : Int) ≤ (b - 0 - 1) / c := by omega
      rw [e1, Int.le_ediv_iff_mul_le (by omega)]
      omega
    · constructor
      · intro h; omega
      · intro h; omega
  constructor
  · rintro ⟨i, hi, rfl⟩
    have := (key i).mp hi
    have nn := Int.mul_nonneg (show (0 : Int) ≤ i by omega) (show 0 ≤ c by omega)
    refine ⟨by omega, by omega, ?_⟩
    rw [Int.zero_add]
    exact Int.mul_emod_left _ _
  · rintro ⟨h0, h1, h2⟩
    obtain ⟨i, rfl⟩ := (mod_iff (by omega) h0).mp h2
    exact ⟨i, (key i).mpr h1, by omega⟩
theorem rg3_rise {b c : Int} (hc : 1 ≤ c) : (rg3L 0 b c).Pairwise (· < ·) := by
  unfold rg3L
  rw [List.pairwise_map]
  refine List.pairwise_lt_range.imp fun {i j} h => ?_
  have := Int.mul_lt_mul_of_pos_right (show (i : Int) < j by omega) (show 0 < c by omega)
  omega
end
end Pg

namespace Law
open PySem PySem.Spec PyProof.Rows L2 Pg
/-! ### the text -/
def top (i : Nat) : Stmt := PySem.Challenge.pw_scrolledlists_k23_whole_pages.main.body.getD i (.Pass ⟨0, 0, 0, 0⟩)
/-- the classes that are raised -/
def excs : List PySem.Str := ["InvalidView", "InvalidRow", "InvalidNumber", "InvalidSize"]
def m_is_int : MS := (mRet (vAnd (eIsi "int" (eVar 0)) (vAnd (vNot (eIsi "bool" (eVar 0))) (eChn leD leD (eVar 1) (eVar 0) (eVar 2)))))
def F_is_int : List D → R D := mkF 3 3 m_is_int
def m_is_view : MS := (mSeq (mIf (mOr (mNot (mVal (eIsi "tuple" (eVar 0)))) (mVal (bin neD (bcall lenB (aCons (eVar 0) aNil)) (eC (.int 4))))) (mRet (eC (.bl false))) mNx)
    (mSeq (mAsg (bTup [1, 2, 3, 4]) (eVar 0))
    (mSeq (mIf (mOr (mNot (mVal (eCall 3 F_is_int (aCons (eVar 1) (aCons (eC (.int 1)) (aCons (eC (.int 99)) aNil)))))) (mNot (mVal (eCall 3 F_is_int (aCons (eVar 2) (aCons (eC (.int 1)) (aCons (bcall min2B (aCons (eVar 1) (aCons (eC (.int 30)) aNil))) aNil))))))) (mRet (eC (.bl false))) mNx)
    (mSeq (mIf (mNot (mVal (eCall 3 F_is_int (aCons (eVar 3) (aCons (eC (.int 1)) (aCons (eC (.int 60)) aNil)))))) (mRet (eC (.bl false))) mNx)
    (mRet (vAnd (eIsi "str" (eVar 4)) (bin (inD false) (eVar 4) (eC (.tup ((["down", "near", "up"] : List PySem.Str).map D.str))))))))))
def F_is_view : List D → R D := mkF 1 5 m_is_view
def m_check_view : MS := (mIf (mNot (mVal (eCall 1 F_is_view (aCons (eVar 0) aNil)))) (mRaise "InvalidView") mNx)
def F_check_view : List D → R D := mkF 1 1 m_check_view
def m_check_row : MS := (mIf (mNot (mVal (eCall 3 F_is_int (aCons (eVar 0) (aCons (eC (.int 0)) (aCons (eVar 1) aNil)))))) (mRaise "InvalidRow") mNx)
def F_check_row : List D → R D := mkF 2 2 m_check_row
def m_rest_of : MS := (mRet (bin subD (bin ixD (eVar 0) (eC (.int 0))) (bin ixD (eVar 0) (eC (.int 1)))))
def F_rest_of : List D → R D := mkF 1 1 m_rest_of
def m_rest_size : MS := (mSeq (mDrop (eCall 1 F_check_view (aCons (eVar 0) aNil)))
    (mRet (eCall 1 F_rest_of (aCons (eVar 0) aNil))))
def F_rest_size : List D → R D := mkF 1 1 m_rest_size
def m_check_size : MS := (mIf (mNot (mVal (eCall 3 F_is_int (aCons (eVar 1) (aCons (eC (.int 1)) (aCons (bin ixD (eVar 0) (eC (.int 1))) aNil)))))) (mRaise "InvalidSize") mNx)
def F_check_size : List D → R D := mkF 2 2 m_check_size
def m_bounded : MS := (mRet (bcall max2B (aCons (eC (.int 0)) (aCons (bcall min2B (aCons (eVar 1) (aCons (eCall 1 F_rest_of (aCons (eVar 0) aNil)) aNil))) aNil))))
def F_bounded : List D → R D := mkF 2 2 m_bounded
def m_turned : MS := (mSeq (mDrop (eCall 1 F_check_view (aCons (eVar 0) aNil)))
    (mSeq (mDrop (eCall 2 F_check_row (aCons (eVar 1) (aCons (eCall 1 F_rest_of (aCons (eVar 0) aNil)) aNil))))
    (mSeq (mDrop (eCall 2 F_check_size (aCons (eVar 0) (aCons (eVar 2) aNil))))
    (mSeq (mIf (mNot (mVal (eCall 3 F_is_int (aCons (eVar 3) (aCons (bin subD (eC (.int 0)) (eC (.int 99))) (aCons (eC (.int 99)) aNil)))))) (mRaise "InvalidNumber") mNx)
    (mRet (eCall 2 F_bounded (aCons (eVar 0) (aCons (bin addD (eVar 1) (bin mulD (eVar 3) (eVar 2))) aNil))))))))
def F_turned : List D → R D := mkF 4 4 m_turned
def m_turns_from : MS := (mSeq (mPar [3, 4, 5] (qOwd (eVar 1) (eC (.int 0)) (qVal (eLst (aCons (eVar 1) aNil)) (qVal (eC (.int 0)) qNil))))
    (mSeq (mWhile (mVal (bin neD (eVar 4) (eLst aNil)))
    (mSeq (mPar [5, 6] (qVal (bin addD (eVar 5) (eC (.int 1))) (qOwn aNil qNil)))
    (mSeq (mFor (iSeq lstD (eVar 4)) (bName 7)
    (mFor (iSeq tupD (eTup (aCons (eCall 2 F_bounded (aCons (eVar 0) (aCons (bin addD (eVar 7) (eVar 2)) aNil))) (aCons (eCall 2 F_bounded (aCons (eVar 0) (aCons (bin subD (eVar 7) (eVar 2)) aNil))) aNil)))) (bName 8)
    (mIf (mVal (bin (dinD true) (eVar 8) (eVar 3))) (mSeq (mPut 3 (eVar 8) (eVar 5))
    (mApp 6 (eVar 8))) mNx)))
    (mFrz 6 (mSet 4 (eVar 6))))) 100)
    (mRet (eVar 3))))
def F_turns_from : List D → R D := mkF 3 9 m_turns_from
def m_reachable : MS := (mSeq (mDrop (eCall 1 F_check_view (aCons (eVar 0) aNil)))
    (mSeq (mDrop (eCall 2 F_check_size (aCons (eVar 0) (aCons (eVar 1) aNil))))
    (mRet (bcall sortDB (aCons (eCall 3 F_turns_from (aCons (eVar 0) (aCons (eC (.int 0)) (aCons (eVar 1) aNil)))) aNil)))))
def F_reachable : List D → R D := mkF 2 2 m_reachable
def m_fewest_turns : MS := (mSeq (mDrop (eCall 1 F_check_view (aCons (eVar 0) aNil)))
    (mSeq (mDrop (eCall 2 F_check_row (aCons (eVar 1) (aCons (eCall 1 F_rest_of (aCons (eVar 0) aNil)) aNil))))
    (mSeq (mDrop (eCall 2 F_check_size (aCons (eVar 0) (aCons (eVar 2) aNil))))
    (mSeq (mDrop (eCall 2 F_check_row (aCons (eVar 3) (aCons (eCall 1 F_rest_of (aCons (eVar 0) aNil)) aNil))))
    (mRet (eGet1 (eCall 3 F_turns_from (aCons (eVar 0) (aCons (eVar 1) (aCons (eVar 2) aNil)))) (eVar 3)))))))
def F_fewest_turns : List D → R D := mkF 4 4 m_fewest_turns
def m__law_drawn : MS := (mSeq (mSet 3 (bin mulD (eC (.int 7)) (eVar 1)))
    (mSeq (mIf (mVal (bin neD (eVar 0) (eLst aNil))) (mSeq (mSet 3 (bin ixD (eVar 0) (bin modD (eVar 1) (bcall lenB (aCons (eVar 0) aNil)))))
    (mSeq (mSet 4 (bin fdivD (eVar 1) (bcall lenB (aCons (eVar 0) aNil))))
    (mSeq (mIf (mAnd (mVal (bin geD (eVar 3) (bin powD (eC (.int 10)) (eC (.int 18))))) (mVal (bin ltD (eVar 4) (eC (.int 60))))) (mSeq (mSet 5 (bin fdivD (eVar 3) (bin powD (eC (.int 10)) (eC (.int 18)))))
    (mSeq (mWhile (mAnd (mVal (bin gtD (eVar 5) (eC (.int 0)))) (mVal (bin gtD (eVar 4) (eC (.int 0)))))
    (mSeq (mSet 5 (bin fdivD (eVar 5) (eC (.int 1000000))))
    (mSet 4 (bin subD (eVar 4) (eC (.int 1))))) 100)
    (mIf (mVal (bin gtD (eVar 5) (eC (.int 0)))) (mRet (bin modD (bin modD (eVar 5) (eC (.int 1000000))) (eVar 2))) mNx))) mNx)
    (mSet 3 (bin addD (eVar 3) (bin mulD (eC (.int 6553)) (bin fdivD (eVar 1) (bcall lenB (aCons (eVar 0) aNil))))))))) mNx)
    (mSeq (mSet 3 (bin modD (bin addD (bin mulD (bin modD (eVar 3) (eC (.int 2147483563))) (eC (.int 69069))) (bin mulD (eC (.int 104723)) (bin addD (eVar 1) (eC (.int 1))))) (eC (.int 2147483563))))
    (mSeq (mSet 3 (bin modD (bin addD (bin mulD (eVar 3) (eVar 3)) (bin fdivD (eVar 3) (eC (.int 3)))) (eC (.int 2147483399))))
    (mRet (bin modD (bin fdivD (bin modD (bin addD (bin mulD (eVar 3) (eVar 3)) (bin fdivD (eVar 3) (eC (.int 7)))) (eC (.int 2147483647))) (eC (.int 11))) (eVar 2)))))))
def F__law_drawn : List D → R D := mkF 3 6 m__law_drawn
def m__law_view : MS := (mSeq (mSet 2 (bin addD (eC (.int 1)) (eCall 3 F__law_drawn (aCons (eVar 0) (aCons (eVar 1) (aCons (eC (.int 7)) aNil))))))
    (mSeq (mSet 3 (bin addD (eVar 2) (eCall 3 F__law_drawn (aCons (eVar 0) (aCons (bin addD (eVar 1) (eC (.int 1))) (aCons (eC (.int 30)) aNil))))))
    (mRet (eTup (aCons (eVar 3) (aCons (eVar 2) (aCons (bin addD (eC (.int 1)) (eCall 3 F__law_drawn (aCons (eVar 0) (aCons (bin addD (eVar 1) (eC (.int 2))) (aCons (eC (.int 20)) aNil))))) (aCons (bin ixD (eLst (aCons (eC (.str "down")) (aCons (eC (.str "near")) (aCons (eC (.str "up")) aNil)))) (eCall 3 F__law_drawn (aCons (eVar 0) (aCons (bin addD (eVar 1) (eC (.int 3))) (aCons (eC (.int 3)) aNil))))) aNil))))))))
def F__law_view : List D → R D := mkF 2 4 m__law_view
def m__law_fewest : MS := (mSeq (mSet 4 (eCall 1 F_rest_size (aCons (eVar 0) aNil)))
    (mSeq (mFor (iArg range1A (aCons (bin addD (eVar 4) (eC (.int 1))) aNil)) (bName 5)
    (mSeq (mSet 6 (eCall 4 F_fewest_turns (aCons (eVar 0) (aCons (eC (.int 0)) (aCons (eVar 2) (aCons (eVar 5) aNil))))))
    (mSeq (mIf (mOr (mVal (bin neD (bin isD (eVar 6) (eC .non)) (bin (inD true) (eVar 5) (eVar 3)))) (mAnd (mVal (bin isnD (eVar 6) (eC .non))) (mVal (bin ltD (bin mulD (eVar 6) (eVar 2)) (eVar 5))))) (mRet (eC (.bl false))) mNx)
    (mSeq (mIf (mAnd (mVal (bin isnD (eVar 6) (eC .non))) (mAnd (mVal (bin eqD (bin modD (eVar 5) (eVar 2)) (eC (.int 0)))) (mVal (bin neD (eVar 6) (bin fdivD (eVar 5) (eVar 2)))))) (mRet (eC (.bl false))) mNx)
    (mIf (mAnd (mVal (bin isnD (eVar 6) (eC .non))) (mAnd (mVal (bin neD (bin modD (eVar 5) (eVar 2)) (eC (.int 0)))) (mVal (bin neD (eVar 6) (bin addD (bin fdivD (bin subD (bin addD (eVar 4) (eVar 2)) (eC (.int 1))) (eVar 2)) (bin fdivD (bin subD (eVar 4) (eVar 5)) (eVar 2))))))) (mRet (eC (.bl false))) mNx)))))
    (mSeq (mSet 7 (eLst (aCons (eCall 4 F_fewest_turns (aCons (eVar 0) (aCons (eVar 1) (aCons (eVar 2) (aCons (eC (.int 0)) aNil))))) (aCons (eCall 4 F_fewest_turns (aCons (eVar 0) (aCons (eVar 1) (aCons (eVar 2) (aCons (eVar 4) aNil))))) aNil))))
    (mRet (bin eqD (eVar 7) (eLst (aCons (bin fdivD (bin subD (bin addD (eVar 1) (eVar 2)) (eC (.int 1))) (eVar 2)) (aCons (bin fdivD (bin subD (bin addD (bin subD (eVar 4) (eVar 1)) (eVar 2)) (eC (.int 1))) (eVar 2)) aNil))))))))
def F__law_fewest : List D → R D := mkF 4 8 m__law_fewest
def S_law_1 : MS := (mSet 1 (eCall 2 F__law_view (aCons (eVar 0) (aCons (eC (.int 10)) aNil))))
def S_law_2 : MS := (mAsg (bTup [2, 3, 4, 5]) (eVar 1))
def S_law_3 : MS := (mAsg (bTup [6, 7]) (eTup (aCons (bin addD (eC (.int 1)) (eCall 3 F__law_drawn (aCons (eVar 0) (aCons (eC (.int 1)) (aCons (eVar 3) aNil))))) (aCons (eCall 1 F_rest_size (aCons (eVar 1) aNil)) aNil))))
def S_law_4 : MS := (mSet 8 (eCall 2 F_reachable (aCons (eVar 1) (aCons (eVar 6) aNil))))
def S_law_5 : MS := (mSet 9 (unr sortsetD (eComp (iArg range1A (aCons (bin addD (eVar 7) (eC (.int 1))) aNil)) [12] (bName 12) (mOr (mVal (bin eqD (bin modD (eVar 12) (eVar 6)) (eC (.int 0)))) (mVal (bin eqD (bin modD (bin subD (eVar 7) (eVar 12)) (eVar 6)) (eC (.int 0))))) (eVar 12))))
def S_law_6_1 : MS := (mRet (eC (.bl false)))
def S_law_6 : MS := (mIf (mOr (mVal (bin neD (eVar 8) (eVar 9))) (mOr (mVal (bin (inD true) (eC (.int 0)) (eVar 8))) (mVal (bin (inD true) (eVar 7) (eVar 8))))) S_law_6_1 mNx)
def S_law_7_1 : MS := (mRet (eC (.bl false)))
def S_law_7 : MS := (mIf (mVal (bin neD (bin eqD (bin modD (eVar 7) (eVar 6)) (eC (.int 0))) (bin eqD (eVar 8) (bcall rg3B (aCons (eC (.int 0)) (aCons (bin addD (eVar 7) (eC (.int 1))) (aCons (eVar 6) aNil))))))) S_law_7_1 mNx)
def S_law_8 : MS := (mPar [10, 11] (qVal (eCall 3 F__law_drawn (aCons (eVar 0) (aCons (eC (.int 2)) (aCons (bin addD (eVar 7) (eC (.int 1))) aNil)))) (qVal (eCall 3 F__law_drawn (aCons (eVar 0) (aCons (eC (.int 3)) (aCons (eC (.int 12)) aNil)))) qNil)))
def S_law_9 : MS := (mSet 12 (eCall 4 F_turned (aCons (eVar 1) (aCons (eVar 10) (aCons (eVar 6) (aCons (eVar 11) aNil))))))
def S_law_10_1 : MS := (mRet (eC (.bl false)))
def S_law_10 : MS := (mIf (mOr (mVal (bin neD (eVar 12) (bcall min2B (aCons (bin addD (eVar 10) (bin mulD (eVar 11) (eVar 6))) (aCons (eVar 7) aNil))))) (mVal (bin neD (eCall 4 F_turned (aCons (eVar 1) (aCons (eVar 10) (aCons (eVar 6) (aCons (eC (.int 0)) aNil))))) (eVar 10)))) S_law_10_1 mNx)
def S_law_11_1 : MS := (mRet (eC (.bl false)))
def S_law_11 : MS := (mIf (mAnd (mVal (bin leD (bin addD (eVar 10) (bin mulD (eVar 11) (eVar 6))) (eVar 7))) (mVal (bin neD (eCall 4 F_turned (aCons (eVar 1) (aCons (eVar 12) (aCons (eVar 6) (aCons (bin subD (eC (.int 0)) (eVar 11)) aNil))))) (eVar 10)))) S_law_11_1 mNx)
def S_law_12_1 : MS := (mRet (eC (.bl false)))
def S_law_12 : MS := (mIf (mOr (mVal (bin neD (eCall 4 F_turned (aCons (eVar 1) (aCons (eVar 10) (aCons (eVar 6) (aCons (eC (.int 99)) aNil))))) (eVar 7))) (mVal (bin neD (eCall 4 F_turned (aCons (eVar 1) (aCons (eVar 10) (aCons (eVar 6) (aCons (unr negD (eC (.int 99))) aNil))))) (eC (.int 0))))) S_law_12_1 mNx)
def S_law_13 : MS := (mSet 13 (eCall 4 F_fewest_turns (aCons (eVar 1) (aCons (eVar 10) (aCons (eVar 6) (aCons (eVar 12) aNil))))))
def S_law_14_1 : MS := (mRet (eC (.bl false)))
def S_law_14 : MS := (mIf (mOr (mVal (bin isD (eVar 13) (eC .non))) (mOr (mVal (bin gtD (eVar 13) (eVar 11))) (mVal (bin neD (eCall 4 F_fewest_turns (aCons (eVar 1) (aCons (eVar 10) (aCons (eVar 6) (aCons (eVar 10) aNil))))) (eC (.int 0)))))) S_law_14_1 mNx)
def S_law_15_1 : MS := (mRet (eC (.bl false)))
def S_law_15 : MS := (mIf (mVal (bin neD (bin eqD (eVar 13) (eVar 11)) (vOr (bin ltD (bin addD (eVar 10) (bin mulD (bin subD (eVar 11) (eC (.int 1))) (eVar 6))) (eVar 7)) (bin eqD (eVar 11) (eC (.int 0)))))) S_law_15_1 mNx)
def S_law_16 : MS := (mRet (eCall 4 F__law_fewest (aCons (eVar 1) (aCons (eVar 10) (aCons (eVar 6) (aCons (eVar 8) aNil))))))
def m_law : MS := (mSeq S_law_1
    (mSeq S_law_2
    (mSeq S_law_3
    (mSeq S_law_4
    (mSeq S_law_5
    (mSeq S_law_6
    (mSeq S_law_7
    (mSeq S_law_8
    (mSeq S_law_9
    (mSeq S_law_10
    (mSeq S_law_11
    (mSeq S_law_12
    (mSeq S_law_13
    (mSeq S_law_14
    (mSeq S_law_15
    S_law_16)))))))))))))))
def F_law : List D → R D := mkF 1 14 m_law
abbrev s_is_int : Stmt := top 14
theorem sc_is_int : FnScope ["value", "least", "most"] ["value", "least", "most"] (defScope s_is_int) := ⟨rfl, rfl, rfl, by decide +kernel, rfl, by decide +kernel, by decide +kernel⟩
abbrev s_is_view : Stmt := top 15
theorem sc_is_view : FnScope ["candidate", "rows", "height", "steps", "rule"] ["candidate"] (defScope s_is_view) := ⟨rfl, rfl, rfl, by decide +kernel, rfl, by decide +kernel, by decide +kernel⟩
abbrev s_check_view : Stmt := top 16
theorem sc_check_view : FnScope ["value"] ["value"] (defScope s_check_view) := ⟨rfl, rfl, rfl, by decide +kernel, rfl, by decide +kernel, by decide +kernel⟩
abbrev s_check_row : Stmt := top 17
theorem sc_check_row : FnScope ["value", "most"] ["value", "most"] (defScope s_check_row) := ⟨rfl, rfl, rfl, by decide +kernel, rfl, by decide +kernel, by decide +kernel⟩
abbrev s_rest_of : Stmt := top 18
theorem sc_rest_of : FnScope ["view"] ["view"] (defScope s_rest_of) := ⟨rfl, rfl, rfl, by decide +kernel, rfl, by decide +kernel, by decide +kernel⟩
abbrev s_rest_size : Stmt := top 19
theorem sc_rest_size : FnScope ["view"] ["view"] (defScope s_rest_size) := ⟨rfl, rfl, rfl, by decide +kernel, rfl, by decide +kernel, by decide +kernel⟩
abbrev s_check_size : Stmt := top 22
theorem sc_check_size : FnScope ["view", "value"] ["view", "value"] (defScope s_check_size) := ⟨rfl, rfl, rfl, by decide +kernel, rfl, by decide +kernel, by decide +kernel⟩
abbrev s_bounded : Stmt := top 23
theorem sc_bounded : FnScope ["view", "row"] ["view", "row"] (defScope s_bounded) := ⟨rfl, rfl, rfl, by decide +kernel, rfl, by decide +kernel, by decide +kernel⟩
abbrev s_turned : Stmt := top 24
theorem sc_turned : FnScope ["view", "row", "size", "turns"] ["view", "row", "size", "turns"] (defScope s_turned) := ⟨rfl, rfl, rfl, by decide +kernel, rfl, by decide +kernel, by decide +kernel⟩
abbrev s_turns_from : Stmt := top 25
theorem sc_turns_from : FnScope ["view", "start", "size", "found", "last", "many", "more", "row", "other"] ["view", "start", "size"] (defScope s_turns_from) := ⟨rfl, rfl, rfl, by decide +kernel, rfl, by decide +kernel, by decide +kernel⟩
abbrev s_reachable : Stmt := top 26
theorem sc_reachable : FnScope ["view", "size"] ["view", "size"] (defScope s_reachable) := ⟨rfl, rfl, rfl, by decide +kernel, rfl, by decide +kernel, by decide +kernel⟩
abbrev s_fewest_turns : Stmt := top 27
theorem sc_fewest_turns : FnScope ["view", "start", "size", "row"] ["view", "start", "size", "row"] (defScope s_fewest_turns) := ⟨rfl, rfl, rfl, by decide +kernel, rfl, by decide +kernel, by decide +kernel⟩
abbrev s__law_drawn : Stmt := top 29
theorem sc__law_drawn : FnScope ["_law_script", "_law_k", "_law_many", "_law_cell", "_law_turn", "_law_rest"] ["_law_script", "_law_k", "_law_many"] (defScope s__law_drawn) := ⟨rfl, rfl, rfl, by decide +kernel, rfl, by decide +kernel, by decide +kernel⟩
abbrev s__law_view : Stmt := top 30
theorem sc__law_view : FnScope ["_law_script", "_law_at", "_law_height", "_law_rows"] ["_law_script", "_law_at"] (defScope s__law_view) := ⟨rfl, rfl, rfl, by decide +kernel, rfl, by decide +kernel, by decide +kernel⟩
abbrev s__law_fewest : Stmt := top 31
theorem sc__law_fewest : FnScope ["_law_view_here", "_law_start", "_law_size", "_law_told", "_law_end", "_law_other", "_law_many", "_law_ends"] ["_law_view_here", "_law_start", "_law_size", "_law_told"] (defScope s__law_fewest) := ⟨rfl, rfl, rfl, by decide +kernel, rfl, by decide +kernel, by decide +kernel⟩
abbrev s_law : Stmt := top 32
theorem sc_law : FnScope ["_law_script", "_law_view_here", "_law_rows", "_law_height", "_law_steps", "_law_rule", "_law_size", "_law_end", "_law_told", "_law_due", "_law_start", "_law_turns", "_law_row", "_law_many"] ["_law_script"] (defScope s_law) := ⟨rfl, rfl, rfl, by decide +kernel, rfl, by decide +kernel, by decide +kernel⟩
/-- what is known of the module's names -/
structure Tx (P : Program) (w : World) (K : Fr) (mg : Str → Option Value) (base : Heap) : Prop where
  bi : BiK mg
  i_MAX_ROWS : ∃ t, mg "MAX_ROWS" = some (.int 99 t)
  i_MAX_HEIGHT : ∃ t, mg "MAX_HEIGHT" = some (.int 30 t)
  i_MAX_STEPS : ∃ t, mg "MAX_STEPS" = some (.int 60 t)
  i_MAX_TURNS : ∃ t, mg "MAX_TURNS" = some (.int 99 t)
  s_DOWN : ∃ t, mg "DOWN" = some (.str "down" t)
  s_NEAR : ∃ t, mg "NEAR" = some (.str "near" t)
  s_UP : ∃ t, mg "UP" = some (.str "up" t)
  t_RULES : TupK K mg "RULES" ["down", "near", "up"]
  x_ScrollError : ExcK K mg "ScrollError"
  x_InvalidView : ExcK K mg "InvalidView"
  x_InvalidRow : ExcK K mg "InvalidRow"
  x_InvalidNumber : ExcK K mg "InvalidNumber"
  x_InvalidSize : ExcK K mg "InvalidSize"
  xc : True
abbrev FnP (K : Fr) (x : Str) (st : Stmt) (fd : FuncData) : Prop := FunD K x x (defArgs st) (defBody st) (defScope st) [] [] (He.ga K x) fd
structure T_is_int (P : Program) (w : World) (K : Fr) (mg : Str → Option Value) (base : Heap) : Prop extends Tx P w K mg base where
set_option maxHeartbeats 4000000 in
theorem ok_is_int {P : Program} {w : World} {K : Fr} {mg : Str → Option Value} {base : Heap} {fd : FuncData} (T : T_is_int P w K mg base) (Fd : FnP K "is_int" s_is_int fd) : FnOk P w K mg base (L2.CX P w) 1 (He.ga K "is_int") fd ["value", "least", "most"] (spOf K 3 F_is_int) :=
  show FnOk P w K mg base (L2.CX P w) (0 + 1) (He.ga K "is_int") fd ["value", "least", "most"] (spOf K 3 (mkF 3 3 m_is_int)) from def_ok ["value", "least", "most"] ["value", "least", "most"] 0 3 3 m_is_int rfl rfl Fd sc_is_int fun cdv A outer s H E hr W tk hp =>
  (gs_one (gs_ret (g_and (g_isi kit_int bo_int T.bi.b_isinstance T.bi.b_int (g_var 0 rfl (Or.inl rfl))) (g_and (g_not (g_isi kit_bool bo_bool T.bi.b_isinstance T.bi.b_bool (g_var 0 rfl (Or.inl rfl)))) (g_one (g_chn op_le ok_le op_le ok_le (g_var 1 rfl (Or.inl rfl)) (g_var 0 rfl (Or.inl rfl)) (g_var 2 rfl (Or.inl rfl))))))))
structure T_is_view (P : Program) (w : World) (K : Fr) (mg : Str → Option Value) (base : Heap) : Prop extends Tx P w K mg base where
  d_is_int : DefK P w K mg base "is_int" 1 3 F_is_int
set_option maxHeartbeats 4000000 in
theorem ok_is_view {P : Program} {w : World} {K : Fr} {mg : Str → Option Value} {base : Heap} {fd : FuncData} (T : T_is_view P w K mg base) (Fd : FnP K "is_view" s_is_view fd) : FnOk P w K mg base (L2.CX P w) 2 (He.ga K "is_view") fd ["candidate"] (spOf K 1 F_is_view) :=
  show FnOk P w K mg base (L2.CX P w) (1 + 1) (He.ga K "is_view") fd ["candidate"] (spOf K 1 (mkF 1 5 m_is_view)) from def_ok ["candidate", "rows", "height", "steps", "rule"] ["candidate"] 1 1 5 m_is_view rfl rfl Fd sc_is_view fun cdv A outer s H E hr W tk hp =>
  (gs_cons (gs_if (PW.pt (gw_or (gt_not (gt_val (g_isi kit_tuple bo_tuple T.bi.b_isinstance T.bi.b_tuple (g_var 0 rfl (Or.inl rfl))))) (gw_or1 (gt_cmp (op_neD hr.units) ok_ne (g_callB call_len_seq ok_len T.bi.b_len bo_len (ga_cons (g_var 0 rfl (Or.inl rfl)) ga_nil)) g_int (nomark _))))) (gs_one (gs_ret g_bl)) gs_nil)
    (gs_cons (gs_asg (g_var 0 rfl (Or.inl rfl)) (pg_tup rfl (gpgs_cons (pg_name (i := 1) sc_is_view.nd rfl (Or.inl rfl)) (gpgs_cons (pg_name (i := 2) sc_is_view.nd rfl (Or.inl rfl)) (gpgs_cons (pg_name (i := 3) sc_is_view.nd rfl (Or.inl rfl)) (gpgs_cons (pg_name (i := 4) sc_is_view.nd rfl (Or.inl rfl)) gpgs_nil))))) (gok_tup (is := [1, 2, 3, 4]) rfl))
    (gs_cons (gs_if (PW.pt (gw_or (gt_not (gt_val (g_call T.d_is_int (hr.mono (by decide)) tk (ga_cons (g_var 1 rfl (Or.inl rfl)) (ga_cons g_int (ga_cons (g_glI T.i_MAX_ROWS) ga_nil)))))) (gw_or1 (gt_not (gt_val (g_call T.d_is_int (hr.mono (by decide)) tk (ga_cons (g_var 2 rfl (Or.inl rfl)) (ga_cons g_int (ga_cons (g_callB (call_min2 rfl) ok_min2 T.bi.b_min bo_min (ga_cons (g_var 1 rfl (Or.inl rfl)) (ga_cons (g_glI T.i_MAX_HEIGHT) ga_nil))) ga_nil))))))))) (gs_one (gs_ret g_bl)) gs_nil)
    (gs_cons (gs_if (gt_not (gt_val (g_call T.d_is_int (hr.mono (by decide)) tk (ga_cons (g_var 3 rfl (Or.inl rfl)) (ga_cons g_int (ga_cons (g_glI T.i_MAX_STEPS) ga_nil)))))) (gs_one (gs_ret g_bl)) gs_nil)
    (gs_one (gs_ret (g_and (g_isi kit_str bo_str T.bi.b_isinstance T.bi.b_str (g_var 4 rfl (Or.inl rfl))) (g_one (g_cmp op_in_seq ok_in (g_var 4 rfl (Or.inl rfl)) (g_glT T.t_RULES) rfl)))))))))
structure T_check_view (P : Program) (w : World) (K : Fr) (mg : Str → Option Value) (base : Heap) : Prop extends Tx P w K mg base where
  d_is_view : DefK P w K mg base "is_view" 2 1 F_is_view
set_option maxHeartbeats 4000000 in
theorem ok_check_view {P : Program} {w : World} {K : Fr} {mg : Str → Option Value} {base : Heap} {fd : FuncData} (T : T_check_view P w K mg base) (Fd : FnP K "check_view" s_check_view fd) : FnOk P w K mg base (L2.CX P w) 3 (He.ga K "check_view") fd ["value"] (spOf K 1 F_check_view) :=
  show FnOk P w K mg base (L2.CX P w) (2 + 1) (He.ga K "check_view") fd ["value"] (spOf K 1 (mkF 1 1 m_check_view)) from def_ok ["value"] ["value"] 2 1 1 m_check_view rfl rfl Fd sc_check_view fun cdv A outer s H E hr W tk hp =>
  (gs_one (gs_if (gt_not (gt_val (g_call T.d_is_view (hr.mono (by decide)) tk (ga_cons (g_var 0 rfl (Or.inl rfl)) ga_nil)))) (gs_one (gs_raise T.x_InvalidView rfl tk)) gs_nil))
structure T_check_row (P : Program) (w : World) (K : Fr) (mg : Str → Option Value) (base : Heap) : Prop extends Tx P w K mg base where
  d_is_int : DefK P w K mg base "is_int" 1 3 F_is_int
set_option maxHeartbeats 4000000 in
theorem ok_check_row {P : Program} {w : World} {K : Fr} {mg : Str → Option Value} {base : Heap} {fd : FuncData} (T : T_check_row P w K mg base) (Fd : FnP K "check_row" s_check_row fd) : FnOk P w K mg base (L2.CX P w) 2 (He.ga K "check_row") fd ["value", "most"] (spOf K 2 F_check_row) :=
  show FnOk P w K mg base (L2.CX P w) (1 + 1) (He.ga K "check_row") fd ["value", "most"] (spOf K 2 (mkF 2 2 m_check_row)) from def_ok ["value", "most"] ["value", "most"] 1 2 2 m_check_row rfl rfl Fd sc_check_row fun cdv A outer s H E hr W tk hp =>
  (gs_one (gs_if (gt_not (gt_val (g_call T.d_is_int (hr.mono (by decide)) tk (ga_cons (g_var 0 rfl (Or.inl rfl)) (ga_cons g_int (ga_cons (g_var 1 rfl (Or.inl rfl)) ga_nil)))))) (gs_one (gs_raise T.x_InvalidRow rfl tk)) gs_nil))
structure T_rest_of (P : Program) (w : World) (K : Fr) (mg : Str → Option Value) (base : Heap) : Prop extends Tx P w K mg base where
set_option maxHeartbeats 4000000 in
theorem ok_rest_of {P : Program} {w : World} {K : Fr} {mg : Str → Option Value} {base : Heap} {fd : FuncData} (T : T_rest_of P w K mg base) (Fd : FnP K "rest_of" s_rest_of fd) : FnOk P w K mg base (L2.CX P w) 1 (He.ga K "rest_of") fd ["view"] (spOf K 1 F_rest_of) :=
  show FnOk P w K mg base (L2.CX P w) (0 + 1) (He.ga K "rest_of") fd ["view"] (spOf K 1 (mkF 1 1 m_rest_of)) from def_ok ["view"] ["view"] 0 1 1 m_rest_of rfl rfl Fd sc_rest_of fun cdv A outer s H E hr W tk hp =>
  (gs_one (gs_ret (g_bin op_sub ok_sub (g_ix ix_D ok_ix (g_var 0 rfl (Or.inl rfl)) g_int (fun _ _ => rfl)) (g_ix ix_D ok_ix (g_var 0 rfl (Or.inl rfl)) g_int (fun _ _ => rfl)))))
structure T_rest_size (P : Program) (w : World) (K : Fr) (mg : Str → Option Value) (base : Heap) : Prop extends Tx P w K mg base where
  d_check_view : DefK P w K mg base "check_view" 3 1 F_check_view
  d_rest_of : DefK P w K mg base "rest_of" 1 1 F_rest_of
set_option maxHeartbeats 4000000 in
theorem ok_rest_size {P : Program} {w : World} {K : Fr} {mg : Str → Option Value} {base : Heap} {fd : FuncData} (T : T_rest_size P w K mg base) (Fd : FnP K "rest_size" s_rest_size fd) : FnOk P w K mg base (L2.CX P w) 4 (He.ga K "rest_size") fd ["view"] (spOf K 1 F_rest_size) :=
  show FnOk P w K mg base (L2.CX P w) (3 + 1) (He.ga K "rest_size") fd ["view"] (spOf K 1 (mkF 1 1 m_rest_size)) from def_ok ["view"] ["view"] 3 1 1 m_rest_size rfl rfl Fd sc_rest_size fun cdv A outer s H E hr W tk hp =>
  (gs_cons (gs_drop (g_call T.d_check_view (hr.mono (by decide)) tk (ga_cons (g_var 0 rfl (Or.inl rfl)) ga_nil)))
    (gs_one (gs_ret (g_call T.d_rest_of (hr.mono (by decide)) tk (ga_cons (g_var 0 rfl (Or.inl rfl)) ga_nil)))))
structure T_check_size (P : Program) (w : World) (K : Fr) (mg : Str → Option Value) (base : Heap) : Prop extends Tx P w K mg base where
  d_is_int : DefK P w K mg base "is_int" 1 3 F_is_int
set_option maxHeartbeats 4000000 in
theorem ok_check_size {P : Program} {w : World} {K : Fr} {mg : Str → Option Value} {base : Heap} {fd : FuncData} (T : T_check_size P w K mg base) (Fd : FnP K "check_size" s_check_size fd) : FnOk P w K mg base (L2.CX P w) 2 (He.ga K "check_size") fd ["view", "value"] (spOf K 2 F_check_size) :=
  show FnOk P w K mg base (L2.CX P w) (1 + 1) (He.ga K "check_size") fd ["view", "value"] (spOf K 2 (mkF 2 2 m_check_size)) from def_ok ["view", "value"] ["view", "value"] 1 2 2 m_check_size rfl rfl Fd sc_check_size fun cdv A outer s H E hr W tk hp =>
  (gs_one (gs_if (gt_not (gt_val (g_call T.d_is_int (hr.mono (by decide)) tk (ga_cons (g_var 1 rfl (Or.inl rfl)) (ga_cons g_int (ga_cons (g_ix ix_D ok_ix (g_var 0 rfl (Or.inl rfl)) g_int (fun _ _ => rfl)) ga_nil)))))) (gs_one (gs_raise T.x_InvalidSize rfl tk)) gs_nil))
structure T_bounded (P : Program) (w : World) (K : Fr) (mg : Str → Option Value) (base : Heap) : Prop extends Tx P w K mg base where
  d_rest_of : DefK P w K mg base "rest_of" 1 1 F_rest_of
set_option maxHeartbeats 4000000 in
theorem ok_bounded {P : Program} {w : World} {K : Fr} {mg : Str → Option Value} {base : Heap} {fd : FuncData} (T : T_bounded P w K mg base) (Fd : FnP K "bounded" s_bounded fd) : FnOk P w K mg base (L2.CX P w) 2 (He.ga K "bounded") fd ["view", "row"] (spOf K 2 F_bounded) :=
  show FnOk P w K mg base (L2.CX P w) (1 + 1) (He.ga K "bounded") fd ["view", "row"] (spOf K 2 (mkF 2 2 m_bounded)) from def_ok ["view", "row"] ["view", "row"] 1 2 2 m_bounded rfl rfl Fd sc_bounded fun cdv A outer s H E hr W tk hp =>
  (gs_one (gs_ret (g_callB (call_max2 rfl) ok_max2 T.bi.b_max bo_max (ga_cons g_int (ga_cons (g_callB (call_min2 rfl) ok_min2 T.bi.b_min bo_min (ga_cons (g_var 1 rfl (Or.inl rfl)) (ga_cons (g_call T.d_rest_of (hr.mono (by decide)) tk (ga_cons (g_var 0 rfl (Or.inl rfl)) ga_nil)) ga_nil))) ga_nil)))))
structure T_turned (P : Program) (w : World) (K : Fr) (mg : Str → Option Value) (base : Heap) : Prop extends Tx P w K mg base where
  d_is_int : DefK P w K mg base "is_int" 1 3 F_is_int
  d_check_view : DefK P w K mg base "check_view" 3 1 F_check_view
  d_check_row : DefK P w K mg base "check_row" 2 2 F_check_row
  d_rest_of : DefK P w K mg base "rest_of" 1 1 F_rest_of
  d_check_size : DefK P w K mg base "check_size" 2 2 F_check_size
  d_bounded : DefK P w K mg base "bounded" 2 2 F_bounded
set_option maxHeartbeats 4000000 in
theorem ok_turned {P : Program} {w : World} {K : Fr} {mg : Str → Option Value} {base : Heap} {fd : FuncData} (T : T_turned P w K mg base) (Fd : FnP K "turned" s_turned fd) : FnOk P w K mg base (L2.CX P w) 4 (He.ga K "turned") fd ["view", "row", "size", "turns"] (spOf K 4 F_turned) :=
  show FnOk P w K mg base (L2.CX P w) (3 + 1) (He.ga K "turned") fd ["view", "row", "size", "turns"] (spOf K 4 (mkF 4 4 m_turned)) from def_ok ["view", "row", "size", "turns"] ["view", "row", "size", "turns"] 3 4 4 m_turned rfl rfl Fd sc_turned fun cdv A outer s H E hr W tk hp =>
  (gs_cons (gs_drop (g_call T.d_check_view (hr.mono (by decide)) tk (ga_cons (g_var 0 rfl (Or.inl rfl)) ga_nil)))
    (gs_cons (gs_drop (g_call T.d_check_row (hr.mono (by decide)) tk (ga_cons (g_var 1 rfl (Or.inl rfl)) (ga_cons (g_call T.d_rest_of (hr.mono (by decide)) tk (ga_cons (g_var 0 rfl (Or.inl rfl)) ga_nil)) ga_nil))))
    (gs_cons (gs_drop (g_call T.d_check_size (hr.mono (by decide)) tk (ga_cons (g_var 0 rfl (Or.inl rfl)) (ga_cons (g_var 2 rfl (Or.inl rfl)) ga_nil))))
    (gs_cons (gs_if (gt_not (gt_val (g_call T.d_is_int (hr.mono (by decide)) tk (ga_cons (g_var 3 rfl (Or.inl rfl)) (ga_cons (g_bin op_sub ok_sub g_int (g_glI T.i_MAX_TURNS)) (ga_cons (g_glI T.i_MAX_TURNS) ga_nil)))))) (gs_one (gs_raise T.x_InvalidNumber rfl tk)) gs_nil)
    (gs_one (gs_ret (g_call T.d_bounded (hr.mono (by decide)) tk (ga_cons (g_var 0 rfl (Or.inl rfl)) (ga_cons (g_bin op_addD ok_add (g_var 1 rfl (Or.inl rfl)) (g_bin op_mulD ok_mul (g_var 3 rfl (Or.inl rfl)) (g_var 2 rfl (Or.inl rfl)))) ga_nil)))))))))
structure T_turns_from (P : Program) (w : World) (K : Fr) (mg : Str → Option Value) (base : Heap) : Prop extends Tx P w K mg base where
  d_bounded : DefK P w K mg base "bounded" 2 2 F_bounded
set_option maxHeartbeats 4000000 in
theorem ok_turns_from {P : Program} {w : World} {K : Fr} {mg : Str → Option Value} {base : Heap} {fd : FuncData} (T : T_turns_from P w K mg base) (Fd : FnP K "turns_from" s_turns_from fd) : FnOk P w K mg base (L2.CX P w) 3 (He.ga K "turns_from") fd ["view", "start", "size"] (spOf K 3 F_turns_from) :=
  show FnOk P w K mg base (L2.CX P w) (2 + 1) (He.ga K "turns_from") fd ["view", "start", "size"] (spOf K 3 (mkF 3 9 m_turns_from)) from def_ok ["view", "start", "size", "found", "last", "many", "more", "row", "other"] ["view", "start", "size"] 2 3 9 m_turns_from rfl rfl Fd sc_turns_from fun cdv A outer s H E hr W tk hp =>
  (gs_cons (gs_par3 (i := 3) (j := 4) (l := 5) rfl sc_turns_from.nd rfl rfl rfl (by decide) (by decide) (by decide) rfl rfl rfl (gq_owd (g_var 1 rfl (Or.inl rfl)) g_int (gq_val (g_lst (ga_cons (g_var 1 rfl (Or.inl rfl)) ga_nil)) (gq_val g_int gq_nil))))
    (gs_cons (gs_while 100 hp (gt_cmp (op_neD hr.units) ok_ne (g_var 4 rfl (Or.inl rfl)) (g_lst ga_nil) (nomark _))
    (gs_cons (gs_par2 (i := 5) (j := 6) rfl sc_turns_from.nd rfl rfl (by decide) rfl rfl (gq_val (g_bin op_addD ok_add (g_var 5 rfl (Or.inl rfl)) g_int) (gq_own ga_nil gq_nil)))
    (gs_cons (gs_for hp rfl (gi_list (g_var 4 rfl (Or.inl rfl))) (pg_name (i := 7) sc_turns_from.nd rfl (Or.inl rfl)) (gok_name 7)
    (gs_one (gs_for hp rfl (gi_tup (g_tup (ga_cons (g_call T.d_bounded (hr.mono (by decide)) tk (ga_cons (g_var 0 rfl (Or.inl rfl)) (ga_cons (g_bin op_addD ok_add (g_var 7 rfl (Or.inl rfl)) (g_var 2 rfl (Or.inl rfl))) ga_nil))) (ga_cons (g_call T.d_bounded (hr.mono (by decide)) tk (ga_cons (g_var 0 rfl (Or.inl rfl)) (ga_cons (g_bin op_sub ok_sub (g_var 7 rfl (Or.inl rfl)) (g_var 2 rfl (Or.inl rfl))) ga_nil))) ga_nil)))) (pg_name (i := 8) sc_turns_from.nd rfl (Or.inl rfl)) (gok_name 8)
    (gs_one (gs_if (gt_dnin hr.units (g_var 8 rfl (Or.inl rfl)) (g_var 3 rfl (Or.inl rfl))) (gs_cons (gs_put (i := 3) hr.units rfl (Or.inl rfl) (g_var 8 rfl (Or.inl rfl)) (g_var 5 rfl (Or.inl rfl)))
    (gs_one (gs_app (i := 6) rfl (Or.inl rfl) (g_var 8 rfl (Or.inl rfl))))) gs_nil)))))
    (gs_one (gs_frz (i := 6) (gs_set (i := 4) sc_turns_from.nd rfl (Or.inl rfl) (g_var 6 rfl (Or.inl rfl))))))))
    (gs_one (gs_ret (g_var 3 rfl (Or.inl rfl))))))
structure T_reachable (P : Program) (w : World) (K : Fr) (mg : Str → Option Value) (base : Heap) : Prop extends Tx P w K mg base where
  d_check_view : DefK P w K mg base "check_view" 3 1 F_check_view
  d_check_size : DefK P w K mg base "check_size" 2 2 F_check_size
  d_turns_from : DefK P w K mg base "turns_from" 3 3 F_turns_from
set_option maxHeartbeats 4000000 in
theorem ok_reachable {P : Program} {w : World} {K : Fr} {mg : Str → Option Value} {base : Heap} {fd : FuncData} (T : T_reachable P w K mg base) (Fd : FnP K "reachable" s_reachable fd) : FnOk P w K mg base (L2.CX P w) 4 (He.ga K "reachable") fd ["view", "size"] (spOf K 2 F_reachable) :=
  show FnOk P w K mg base (L2.CX P w) (3 + 1) (He.ga K "reachable") fd ["view", "size"] (spOf K 2 (mkF 2 2 m_reachable)) from def_ok ["view", "size"] ["view", "size"] 3 2 2 m_reachable rfl rfl Fd sc_reachable fun cdv A outer s H E hr W tk hp =>
  (gs_cons (gs_drop (g_call T.d_check_view (hr.mono (by decide)) tk (ga_cons (g_var 0 rfl (Or.inl rfl)) ga_nil)))
    (gs_cons (gs_drop (g_call T.d_check_size (hr.mono (by decide)) tk (ga_cons (g_var 0 rfl (Or.inl rfl)) (ga_cons (g_var 1 rfl (Or.inl rfl)) ga_nil))))
    (gs_one (gs_ret (g_callB (cr_sortD rfl) ok_sortD T.bi.b_sorted bo_sorted (ga_cons (g_call T.d_turns_from (hr.mono (by decide)) tk (ga_cons (g_var 0 rfl (Or.inl rfl)) (ga_cons g_int (ga_cons (g_var 1 rfl (Or.inl rfl)) ga_nil)))) ga_nil))))))
structure T_fewest_turns (P : Program) (w : World) (K : Fr) (mg : Str → Option Value) (base : Heap) : Prop extends Tx P w K mg base where
  d_check_view : DefK P w K mg base "check_view" 3 1 F_check_view
  d_check_row : DefK P w K mg base "check_row" 2 2 F_check_row
  d_rest_of : DefK P w K mg base "rest_of" 1 1 F_rest_of
  d_check_size : DefK P w K mg base "check_size" 2 2 F_check_size
  d_turns_from : DefK P w K mg base "turns_from" 3 3 F_turns_from
set_option maxHeartbeats 4000000 in
theorem ok_fewest_turns {P : Program} {w : World} {K : Fr} {mg : Str → Option Value} {base : Heap} {fd : FuncData} (T : T_fewest_turns P w K mg base) (Fd : FnP K "fewest_turns" s_fewest_turns fd) : FnOk P w K mg base (L2.CX P w) 4 (He.ga K "fewest_turns") fd ["view", "start", "size", "row"] (spOf K 4 F_fewest_turns) :=
  show FnOk P w K mg base (L2.CX P w) (3 + 1) (He.ga K "fewest_turns") fd ["view", "start", "size", "row"] (spOf K 4 (mkF 4 4 m_fewest_turns)) from def_ok ["view", "start", "size", "row"] ["view", "start", "size", "row"] 3 4 4 m_fewest_turns rfl rfl Fd sc_fewest_turns fun cdv A outer s H E hr W tk hp =>
  (gs_cons (gs_drop (g_call T.d_check_view (hr.mono (by decide)) tk (ga_cons (g_var 0 rfl (Or.inl rfl)) ga_nil)))
    (gs_cons (gs_drop (g_call T.d_check_row (hr.mono (by decide)) tk (ga_cons (g_var 1 rfl (Or.inl rfl)) (ga_cons (g_call T.d_rest_of (hr.mono (by decide)) tk (ga_cons (g_var 0 rfl (Or.inl rfl)) ga_nil)) ga_nil))))
    (gs_cons (gs_drop (g_call T.d_check_size (hr.mono (by decide)) tk (ga_cons (g_var 0 rfl (Or.inl rfl)) (ga_cons (g_var 2 rfl (Or.inl rfl)) ga_nil))))
    (gs_cons (gs_drop (g_call T.d_check_row (hr.mono (by decide)) tk (ga_cons (g_var 3 rfl (Or.inl rfl)) (ga_cons (g_call T.d_rest_of (hr.mono (by decide)) tk (ga_cons (g_var 0 rfl (Or.inl rfl)) ga_nil)) ga_nil))))
    (gs_one (gs_ret (g_dget1 hr.units (g_call T.d_turns_from (hr.mono (by decide)) tk (ga_cons (g_var 0 rfl (Or.inl rfl)) (ga_cons (g_var 1 rfl (Or.inl rfl)) (ga_cons (g_var 2 rfl (Or.inl rfl)) ga_nil)))) (g_var 3 rfl (Or.inl rfl)))))))))
structure T__law_drawn (P : Program) (w : World) (K : Fr) (mg : Str → Option Value) (base : Heap) : Prop extends Tx P w K mg base where
set_option maxHeartbeats 4000000 in
theorem ok__law_drawn {P : Program} {w : World} {K : Fr} {mg : Str → Option Value} {base : Heap} {fd : FuncData} (T : T__law_drawn P w K mg base) (Fd : FnP K "_law_drawn" s__law_drawn fd) : FnOk P w K mg base (L2.CX P w) 1 (He.ga K "_law_drawn") fd ["_law_script", "_law_k", "_law_many"] (spOf K 3 F__law_drawn) :=
  show FnOk P w K mg base (L2.CX P w) (0 + 1) (He.ga K "_law_drawn") fd ["_law_script", "_law_k", "_law_many"] (spOf K 3 (mkF 3 6 m__law_drawn)) from def_ok ["_law_script", "_law_k", "_law_many", "_law_cell", "_law_turn", "_law_rest"] ["_law_script", "_law_k", "_law_many"] 0 3 6 m__law_drawn rfl rfl Fd sc__law_drawn fun cdv A outer s H E hr W tk hp =>
  (gs_cons (gs_set (i := 3) sc__law_drawn.nd rfl (Or.inl rfl) (g_bin op_mulD ok_mul g_int (g_var 1 rfl (Or.inl rfl))))
    (gs_cons (gs_if (gt_cmp (op_neD hr.units) ok_ne (g_var 0 rfl (Or.inl rfl)) (g_lst ga_nil) (nomark _)) (gs_cons (gs_set (i := 3) sc__law_drawn.nd rfl (Or.inl rfl) (g_ix ix_D ok_ix (g_var 0 rfl (Or.inl rfl)) (g_bin op_mod ok_mod (g_var 1 rfl (Or.inl rfl)) (g_callB call_len_seq ok_len T.bi.b_len bo_len (ga_cons (g_var 0 rfl (Or.inl rfl)) ga_nil))) (fun _ _ => rfl)))
    (gs_cons (gs_set (i := 4) sc__law_drawn.nd rfl (Or.inl rfl) (g_bin op_fdivW ok_fdiv (g_var 1 rfl (Or.inl rfl)) (g_callB call_len_seq ok_len T.bi.b_len bo_len (ga_cons (g_var 0 rfl (Or.inl rfl)) ga_nil))))
    (gs_cons (gs_if (PW.pt (gw_and (gt_cmp op_ge ok_ge (g_var 3 rfl (Or.inl rfl)) (g_bin op_pow ok_pow g_int g_int) (nomark _)) (gw_and1 (gt_cmp op_lt ok_lt (g_var 4 rfl (Or.inl rfl)) g_int (nomark _))))) (gs_cons (gs_set (i := 5) sc__law_drawn.nd rfl (Or.inl rfl) (g_bin op_fdivW ok_fdiv (g_var 3 rfl (Or.inl rfl)) (g_bin op_pow ok_pow g_int g_int)))
    (gs_cons (gs_while 100 hp (PW.pt (gw_and (gt_cmp op_gt ok_gt (g_var 5 rfl (Or.inl rfl)) g_int (nomark _)) (gw_and1 (gt_cmp op_gt ok_gt (g_var 4 rfl (Or.inl rfl)) g_int (nomark _)))))
    (gs_cons (gs_set (i := 5) sc__law_drawn.nd rfl (Or.inl rfl) (g_bin op_fdivW ok_fdiv (g_var 5 rfl (Or.inl rfl)) g_int))
    (gs_one (gs_set (i := 4) sc__law_drawn.nd rfl (Or.inl rfl) (g_bin op_sub ok_sub (g_var 4 rfl (Or.inl rfl)) g_int)))))
    (gs_one (gs_if (gt_cmp op_gt ok_gt (g_var 5 rfl (Or.inl rfl)) g_int (nomark _)) (gs_one (gs_ret (g_bin op_mod ok_mod (g_bin op_mod ok_mod (g_var 5 rfl (Or.inl rfl)) g_int) (g_var 2 rfl (Or.inl rfl))))) gs_nil)))) gs_nil)
    (gs_one (gs_set (i := 3) sc__law_drawn.nd rfl (Or.inl rfl) (g_bin op_addD ok_add (g_var 3 rfl (Or.inl rfl)) (g_bin op_mulD ok_mul g_int (g_bin op_fdivW ok_fdiv (g_var 1 rfl (Or.inl rfl)) (g_callB call_len_seq ok_len T.bi.b_len bo_len (ga_cons (g_var 0 rfl (Or.inl rfl)) ga_nil)))))))))) gs_nil)
    (gs_cons (gs_set (i := 3) sc__law_drawn.nd rfl (Or.inl rfl) (g_bin op_mod ok_mod (g_bin op_addD ok_add (g_bin op_mulD ok_mul (g_bin op_mod ok_mod (g_var 3 rfl (Or.inl rfl)) g_int) g_int) (g_bin op_mulD ok_mul g_int (g_bin op_addD ok_add (g_var 1 rfl (Or.inl rfl)) g_int))) g_int))
    (gs_cons (gs_set (i := 3) sc__law_drawn.nd rfl (Or.inl rfl) (g_bin op_mod ok_mod (g_bin op_addD ok_add (g_bin op_mulD ok_mul (g_var 3 rfl (Or.inl rfl)) (g_var 3 rfl (Or.inl rfl))) (g_bin op_fdivW ok_fdiv (g_var 3 rfl (Or.inl rfl)) g_int)) g_int))
    (gs_one (gs_ret (g_bin op_mod ok_mod (g_bin op_fdivW ok_fdiv (g_bin op_mod ok_mod (g_bin op_addD ok_add (g_bin op_mulD ok_mul (g_var 3 rfl (Or.inl rfl)) (g_var 3 rfl (Or.inl rfl))) (g_bin op_fdivW ok_fdiv (g_var 3 rfl (Or.inl rfl)) g_int)) g_int) g_int) (g_var 2 rfl (Or.inl rfl)))))))))
structure T__law_view (P : Program) (w : World) (K : Fr) (mg : Str → Option Value) (base : Heap) : Prop extends Tx P w K mg base where
  d__law_drawn : DefK P w K mg base "_law_drawn" 1 3 F__law_drawn
set_option maxHeartbeats 4000000 in
theorem ok__law_view {P : Program} {w : World} {K : Fr} {mg : Str → Option Value} {base : Heap} {fd : FuncData} (T : T__law_view P w K mg base) (Fd : FnP K "_law_view" s__law_view fd) : FnOk P w K mg base (L2.CX P w) 2 (He.ga K "_law_view") fd ["_law_script", "_law_at"] (spOf K 2 F__law_view) :=
  show FnOk P w K mg base (L2.CX P w) (1 + 1) (He.ga K "_law_view") fd ["_law_script", "_law_at"] (spOf K 2 (mkF 2 4 m__law_view)) from def_ok ["_law_script", "_law_at", "_law_height", "_law_rows"] ["_law_script", "_law_at"] 1 2 4 m__law_view rfl rfl Fd sc__law_view fun cdv A outer s H E hr W tk hp =>
  (gs_cons (gs_set (i := 2) sc__law_view.nd rfl (Or.inl rfl) (g_bin op_addD ok_add g_int (g_call T.d__law_drawn (hr.mono (by decide)) tk (ga_cons (g_var 0 rfl (Or.inl rfl)) (ga_cons (g_var 1 rfl (Or.inl rfl)) (ga_cons g_int ga_nil))))))
    (gs_cons (gs_set (i := 3) sc__law_view.nd rfl (Or.inl rfl) (g_bin op_addD ok_add (g_var 2 rfl (Or.inl rfl)) (g_call T.d__law_drawn (hr.mono (by decide)) tk (ga_cons (g_var 0 rfl (Or.inl rfl)) (ga_cons (g_bin op_addD ok_add (g_var 1 rfl (Or.inl rfl)) g_int) (ga_cons g_int ga_nil))))))
    (gs_one (gs_ret (g_tup (ga_cons (g_var 3 rfl (Or.inl rfl)) (ga_cons (g_var 2 rfl (Or.inl rfl)) (ga_cons (g_bin op_addD ok_add g_int (g_call T.d__law_drawn (hr.mono (by decide)) tk (ga_cons (g_var 0 rfl (Or.inl rfl)) (ga_cons (g_bin op_addD ok_add (g_var 1 rfl (Or.inl rfl)) g_int) (ga_cons g_int ga_nil))))) (ga_cons (g_ix ix_D ok_ix (g_lst (ga_cons g_str (ga_cons g_str (ga_cons g_str ga_nil)))) (g_call T.d__law_drawn (hr.mono (by decide)) tk (ga_cons (g_var 0 rfl (Or.inl rfl)) (ga_cons (g_bin op_addD ok_add (g_var 1 rfl (Or.inl rfl)) g_int) (ga_cons g_int ga_nil)))) (fun _ _ => rfl)) ga_nil)))))))))
structure T__law_fewest (P : Program) (w : World) (K : Fr) (mg : Str → Option Value) (base : Heap) : Prop extends Tx P w K mg base where
  d_rest_size : DefK P w K mg base "rest_size" 4 1 F_rest_size
  d_fewest_turns : DefK P w K mg base "fewest_turns" 4 4 F_fewest_turns
set_option maxHeartbeats 4000000 in
theorem ok__law_fewest {P : Program} {w : World} {K : Fr} {mg : Str → Option Value} {base : Heap} {fd : FuncData} (T : T__law_fewest P w K mg base) (Fd : FnP K "_law_fewest" s__law_fewest fd) : FnOk P w K mg base (L2.CX P w) 5 (He.ga K "_law_fewest") fd ["_law_view_here", "_law_start", "_law_size", "_law_told"] (spOf K 4 F__law_fewest) :=
  show FnOk P w K mg base (L2.CX P w) (4 + 1) (He.ga K "_law_fewest") fd ["_law_view_here", "_law_start", "_law_size", "_law_told"] (spOf K 4 (mkF 4 8 m__law_fewest)) from def_ok ["_law_view_here", "_law_start", "_law_size", "_law_told", "_law_end", "_law_other", "_law_many", "_law_ends"] ["_law_view_here", "_law_start", "_law_size", "_law_told"] 4 4 8 m__law_fewest rfl rfl Fd sc__law_fewest fun cdv A outer s H E hr W tk hp =>
  (gs_cons (gs_set (i := 4) sc__law_fewest.nd rfl (Or.inl rfl) (g_call T.d_rest_size (hr.mono (by decide)) tk (ga_cons (g_var 0 rfl (Or.inl rfl)) ga_nil)))
    (gs_cons (gs_for hp rfl (gi_range1 T.bi.b_range (ga_cons (g_bin op_addD ok_add (g_var 4 rfl (Or.inl rfl)) g_int) ga_nil)) (pg_name (i := 5) sc__law_fewest.nd rfl (Or.inl rfl)) (gok_name 5)
    (gs_cons (gs_set (i := 6) sc__law_fewest.nd rfl (Or.inl rfl) (g_call T.d_fewest_turns (hr.mono (by decide)) tk (ga_cons (g_var 0 rfl (Or.inl rfl)) (ga_cons g_int (ga_cons (g_var 2 rfl (Or.inl rfl)) (ga_cons (g_var 5 rfl (Or.inl rfl)) ga_nil))))))
    (gs_cons (gs_if (PW.pt (gw_or (gt_cmp (op_neD hr.units) ok_ne (g_cmp op_isD ok_is (g_var 6 rfl (Or.inl rfl)) g_non (nomark _)) (g_cmp op_notIn_seq ok_in (g_var 5 rfl (Or.inl rfl)) (g_var 3 rfl (Or.inl rfl)) rfl) (nomark _)) (gw_or1 (PW.pt (gw_and (gt_cmp op_isnD ok_isn (g_var 6 rfl (Or.inl rfl)) g_non (nomark _)) (gw_and1 (gt_cmp op_lt ok_lt (g_bin op_mulD ok_mul (g_var 6 rfl (Or.inl rfl)) (g_var 2 rfl (Or.inl rfl))) (g_var 5 rfl (Or.inl rfl)) (nomark _)))))))) (gs_one (gs_ret g_bl)) gs_nil)
    (gs_cons (gs_if (PW.pt (gw_and (gt_cmp op_isnD ok_isn (g_var 6 rfl (Or.inl rfl)) g_non (nomark _)) (gw_and (gt_cmp (op_eqD hr.units) ok_eq (g_bin op_mod ok_mod (g_var 5 rfl (Or.inl rfl)) (g_var 2 rfl (Or.inl rfl))) g_int (nomark _)) (gw_and1 (gt_cmp (op_neD hr.units) ok_ne (g_var 6 rfl (Or.inl rfl)) (g_bin op_fdivW ok_fdiv (g_var 5 rfl (Or.inl rfl)) (g_var 2 rfl (Or.inl rfl))) (nomark _)))))) (gs_one (gs_ret g_bl)) gs_nil)
    (gs_one (gs_if (PW.pt (gw_and (gt_cmp op_isnD ok_isn (g_var 6 rfl (Or.inl rfl)) g_non (nomark _)) (gw_and (gt_cmp (op_neD hr.units) ok_ne (g_bin op_mod ok_mod (g_var 5 rfl (Or.inl rfl)) (g_var 2 rfl (Or.inl rfl))) g_int (nomark _)) (gw_and1 (gt_cmp (op_neD hr.units) ok_ne (g_var 6 rfl (Or.inl rfl)) (g_bin op_addD ok_add (g_bin op_fdivW ok_fdiv (g_bin op_sub ok_sub (g_bin op_addD ok_add (g_var 4 rfl (Or.inl rfl)) (g_var 2 rfl (Or.inl rfl))) g_int) (g_var 2 rfl (Or.inl rfl))) (g_bin op_fdivW ok_fdiv (g_bin op_sub ok_sub (g_var 4 rfl (Or.inl rfl)) (g_var 5 rfl (Or.inl rfl))) (g_var 2 rfl (Or.inl rfl)))) (nomark _)))))) (gs_one (gs_ret g_bl)) gs_nil))))))
    (gs_cons (gs_set (i := 7) sc__law_fewest.nd rfl (Or.inl rfl) (g_lst (ga_cons (g_call T.d_fewest_turns (hr.mono (by decide)) tk (ga_cons (g_var 0 rfl (Or.inl rfl)) (ga_cons (g_var 1 rfl (Or.inl rfl)) (ga_cons (g_var 2 rfl (Or.inl rfl)) (ga_cons g_int ga_nil))))) (ga_cons (g_call T.d_fewest_turns (hr.mono (by decide)) tk (ga_cons (g_var 0 rfl (Or.inl rfl)) (ga_cons (g_var 1 rfl (Or.inl rfl)) (ga_cons (g_var 2 rfl (Or.inl rfl)) (ga_cons (g_var 4 rfl (Or.inl rfl)) ga_nil))))) ga_nil))))
    (gs_one (gs_ret (g_cmp (op_eqD hr.units) ok_eq (g_var 7 rfl (Or.inl rfl)) (g_lst (ga_cons (g_bin op_fdivW ok_fdiv (g_bin op_sub ok_sub (g_bin op_addD ok_add (g_var 1 rfl (Or.inl rfl)) (g_var 2 rfl (Or.inl rfl))) g_int) (g_var 2 rfl (Or.inl rfl))) (ga_cons (g_bin op_fdivW ok_fdiv (g_bin op_sub ok_sub (g_bin op_addD ok_add (g_bin op_sub ok_sub (g_var 4 rfl (Or.inl rfl)) (g_var 1 rfl (Or.inl rfl))) (g_var 2 rfl (Or.inl rfl))) g_int) (g_var 2 rfl (Or.inl rfl))) ga_nil))) (nomark _)))))))
structure T_law (P : Program) (w : World) (K : Fr) (mg : Str → Option Value) (base : Heap) : Prop extends Tx P w K mg base where
  d_rest_size : DefK P w K mg base "rest_size" 4 1 F_rest_size
  d_turned : DefK P w K mg base "turned" 4 4 F_turned
  d_reachable : DefK P w K mg base "reachable" 4 2 F_reachable
  d_fewest_turns : DefK P w K mg base "fewest_turns" 4 4 F_fewest_turns
  d__law_drawn : DefK P w K mg base "_law_drawn" 1 3 F__law_drawn
  d__law_view : DefK P w K mg base "_law_view" 2 2 F__law_view
  d__law_fewest : DefK P w K mg base "_law_fewest" 5 4 F__law_fewest
set_option maxHeartbeats 4000000 in
theorem ok_law {P : Program} {w : World} {K : Fr} {mg : Str → Option Value} {base : Heap} {fd : FuncData} (T : T_law P w K mg base) (Fd : FnP K "law" s_law fd) : FnOk P w K mg base (L2.CX P w) 6 (He.ga K "law") fd ["_law_script"] (spOf K 1 F_law) :=
  show FnOk P w K mg base (L2.CX P w) (5 + 1) (He.ga K "law") fd ["_law_script"] (spOf K 1 (mkF 1 14 m_law)) from def_ok ["_law_script", "_law_view_here", "_law_rows", "_law_height", "_law_steps", "_law_rule", "_law_size", "_law_end", "_law_told", "_law_due", "_law_start", "_law_turns", "_law_row", "_law_many"] ["_law_script"] 5 1 14 m_law rfl rfl Fd sc_law fun cdv A outer s H E hr W tk hp =>
  (gs_cons (gs_set (i := 1) sc_law.nd rfl (Or.inl rfl) (g_call T.d__law_view (hr.mono (by decide)) tk (ga_cons (g_var 0 rfl (Or.inl rfl)) (ga_cons g_int ga_nil))))
    (gs_cons (gs_asg (g_var 1 rfl (Or.inl rfl)) (pg_tup rfl (gpgs_cons (pg_name (i := 2) sc_law.nd rfl (Or.inl rfl)) (gpgs_cons (pg_name (i := 3) sc_law.nd rfl (Or.inl rfl)) (gpgs_cons (pg_name (i := 4) sc_law.nd rfl (Or.inl rfl)) (gpgs_cons (pg_name (i := 5) sc_law.nd rfl (Or.inl rfl)) gpgs_nil))))) (gok_tup (is := [2, 3, 4, 5]) rfl))
    (gs_cons (gs_asg (g_tup (ga_cons (g_bin op_addD ok_add g_int (g_call T.d__law_drawn (hr.mono (by decide)) tk (ga_cons (g_var 0 rfl (Or.inl rfl)) (ga_cons g_int (ga_cons (g_var 3 rfl (Or.inl rfl)) ga_nil))))) (ga_cons (g_call T.d_rest_size (hr.mono (by decide)) tk (ga_cons (g_var 1 rfl (Or.inl rfl)) ga_nil)) ga_nil))) (pg_tup rfl (gpgs_cons (pg_name (i := 6) sc_law.nd rfl (Or.inr rfl)) (gpgs_cons (pg_name (i := 7) sc_law.nd rfl (Or.inr rfl)) gpgs_nil))) (gok_tup (is := [6, 7]) rfl))
    (gs_cons (gs_set (i := 8) sc_law.nd rfl (Or.inl rfl) (g_call T.d_reachable (hr.mono (by decide)) tk (ga_cons (g_var 1 rfl (Or.inl rfl)) (ga_cons (g_var 6 rfl (Or.inr (Or.inl rfl))) ga_nil))))
    (gs_cons (gs_set (i := 9) sc_law.nd rfl (Or.inl rfl) (g_sortset rfl T.bi.b_sorted T.bi.b_set (g_comp (own := [("_law_row", 12)]) (ow := [12]) rfl rfl sc_law.nd (gi_range1 T.bi.b_range (ga_cons (g_bin op_addD ok_add (g_var 7 rfl (Or.inr (Or.inl rfl))) g_int) ga_nil)) (blkOk_by (N := ["_law_script", "_law_view_here", "_law_rows", "_law_height", "_law_steps", "_law_rule", "_law_size", "_law_end", "_law_told", "_law_due", "_law_start", "_law_turns", "_law_row", "_law_many"]) (sc := defScope s_law) (own := [("_law_row", 12)]) (by decide +kernel)) (gok_name 12) (fun _ _ _ _ _ => (pg_name (i := 12) sc_law.nd rfl (Or.inl rfl))) (fun _ _ _ _ _ => (gp_one (PW.pt (gw_or (gt_cmp (op_eqD hr.units) ok_eq (g_bin op_mod ok_mod (g_var 12 rfl (Or.inl rfl)) (g_var 6 rfl (Or.inr (Or.inl rfl)))) g_int (nomark _)) (gw_or1 (gt_cmp (op_eqD hr.units) ok_eq (g_bin op_mod ok_mod (g_bin op_sub ok_sub (g_var 7 rfl (Or.inr (Or.inl rfl))) (g_var 12 rfl (Or.inl rfl))) (g_var 6 rfl (Or.inr (Or.inl rfl)))) g_int (nomark _))))))) (fun _ _ _ _ _ => (g_var 12 rfl (Or.inl rfl))))))
    (gs_cons (gs_if (PW.pt (gw_or (gt_cmp (op_neD hr.units) ok_ne (g_var 8 rfl (Or.inl rfl)) (g_var 9 rfl (Or.inl rfl)) (nomark _)) (gw_or (gt_cmp op_notIn_seq ok_in g_int (g_var 8 rfl (Or.inl rfl)) rfl) (gw_or1 (gt_cmp op_notIn_seq ok_in (g_var 7 rfl (Or.inr (Or.inl rfl))) (g_var 8 rfl (Or.inl rfl)) rfl))))) (gs_one (gs_ret g_bl)) gs_nil)
    (gs_cons (gs_if (gt_cmp (op_neD hr.units) ok_ne (g_cmp (op_eqD hr.units) ok_eq (g_bin op_mod ok_mod (g_var 7 rfl (Or.inr (Or.inl rfl))) (g_var 6 rfl (Or.inr (Or.inl rfl)))) g_int (nomark _)) (g_cmp (op_eqD hr.units) ok_eq (g_var 8 rfl (Or.inl rfl)) (g_lrg3 rfl T.bi.b_list T.bi.b_range (ga_cons g_int (ga_cons (g_bin op_addD ok_add (g_var 7 rfl (Or.inr (Or.inl rfl))) g_int) (ga_cons (g_var 6 rfl (Or.inr (Or.inl rfl))) ga_nil)))) (nomark _)) (nomark _)) (gs_one (gs_ret g_bl)) gs_nil)
    (gs_cons (gs_par2 (i := 10) (j := 11) rfl sc_law.nd rfl rfl (by decide) rfl rfl (gq_val (g_call T.d__law_drawn (hr.mono (by decide)) tk (ga_cons (g_var 0 rfl (Or.inl rfl)) (ga_cons g_int (ga_cons (g_bin op_addD ok_add (g_var 7 rfl (Or.inr (Or.inl rfl))) g_int) ga_nil)))) (gq_val (g_call T.d__law_drawn (hr.mono (by decide)) tk (ga_cons (g_var 0 rfl (Or.inl rfl)) (ga_cons g_int (ga_cons g_int ga_nil)))) gq_nil)))
    (gs_cons (gs_set (i := 12) sc_law.nd rfl (Or.inl rfl) (g_call T.d_turned (hr.mono (by decide)) tk (ga_cons (g_var 1 rfl (Or.inl rfl)) (ga_cons (g_var 10 rfl (Or.inl rfl)) (ga_cons (g_var 6 rfl (Or.inr (Or.inl rfl))) (ga_cons (g_var 11 rfl (Or.inl rfl)) ga_nil))))))
    (gs_cons (gs_if (PW.pt (gw_or (gt_cmp (op_neD hr.units) ok_ne (g_var 12 rfl (Or.inl rfl)) (g_callB (call_min2 rfl) ok_min2 T.bi.b_min bo_min (ga_cons (g_bin op_addD ok_add (g_var 10 rfl (Or.inl rfl)) (g_bin op_mulD ok_mul (g_var 11 rfl (Or.inl rfl)) (g_var 6 rfl (Or.inr (Or.inl rfl))))) (ga_cons (g_var 7 rfl (Or.inr (Or.inl rfl))) ga_nil))) (nomark _)) (gw_or1 (gt_cmp (op_neD hr.units) ok_ne (g_call T.d_turned (hr.mono (by decide)) tk (ga_cons (g_var 1 rfl (Or.inl rfl)) (ga_cons (g_var 10 rfl (Or.inl rfl)) (ga_cons (g_var 6 rfl (Or.inr (Or.inl rfl))) (ga_cons g_int ga_nil))))) (g_var 10 rfl (Or.inl rfl)) (nomark _))))) (gs_one (gs_ret g_bl)) gs_nil)
    (gs_cons (gs_if (PW.pt (gw_and (gt_cmp op_le ok_le (g_bin op_addD ok_add (g_var 10 rfl (Or.inl rfl)) (g_bin op_mulD ok_mul (g_var 11 rfl (Or.inl rfl)) (g_var 6 rfl (Or.inr (Or.inl rfl))))) (g_var 7 rfl (Or.inr (Or.inl rfl))) (nomark _)) (gw_and1 (gt_cmp (op_neD hr.units) ok_ne (g_call T.d_turned (hr.mono (by decide)) tk (ga_cons (g_var 1 rfl (Or.inl rfl)) (ga_cons (g_var 12 rfl (Or.inl rfl)) (ga_cons (g_var 6 rfl (Or.inr (Or.inl rfl))) (ga_cons (g_bin op_sub ok_sub g_int (g_var 11 rfl (Or.inl rfl))) ga_nil))))) (g_var 10 rfl (Or.inl rfl)) (nomark _))))) (gs_one (gs_ret g_bl)) gs_nil)
    (gs_cons (gs_if (PW.pt (gw_or (gt_cmp (op_neD hr.units) ok_ne (g_call T.d_turned (hr.mono (by decide)) tk (ga_cons (g_var 1 rfl (Or.inl rfl)) (ga_cons (g_var 10 rfl (Or.inl rfl)) (ga_cons (g_var 6 rfl (Or.inr (Or.inl rfl))) (ga_cons g_int ga_nil))))) (g_var 7 rfl (Or.inr (Or.inl rfl))) (nomark _)) (gw_or1 (gt_cmp (op_neD hr.units) ok_ne (g_call T.d_turned (hr.mono (by decide)) tk (ga_cons (g_var 1 rfl (Or.inl rfl)) (ga_cons (g_var 10 rfl (Or.inl rfl)) (ga_cons (g_var 6 rfl (Or.inr (Or.inl rfl))) (ga_cons (g_un un_neg ok_neg g_int) ga_nil))))) g_int (nomark _))))) (gs_one (gs_ret g_bl)) gs_nil)
    (gs_cons (gs_set (i := 13) sc_law.nd rfl (Or.inl rfl) (g_call T.d_fewest_turns (hr.mono (by decide)) tk (ga_cons (g_var 1 rfl (Or.inl rfl)) (ga_cons (g_var 10 rfl (Or.inl rfl)) (ga_cons (g_var 6 rfl (Or.inr (Or.inl rfl))) (ga_cons (g_var 12 rfl (Or.inl rfl)) ga_nil))))))
    (gs_cons (gs_if (PW.pt (gw_or (gt_cmp op_isD ok_is (g_var 13 rfl (Or.inl rfl)) g_non (nomark _)) (gw_or (gt_cmp op_gt ok_gt (g_var 13 rfl (Or.inl rfl)) (g_var 11 rfl (Or.inl rfl)) (nomark _)) (gw_or1 (gt_cmp (op_neD hr.units) ok_ne (g_call T.d_fewest_turns (hr.mono (by decide)) tk (ga_cons (g_var 1 rfl (Or.inl rfl)) (ga_cons (g_var 10 rfl (Or.inl rfl)) (ga_cons (g_var 6 rfl (Or.inr (Or.inl rfl))) (ga_cons (g_var 10 rfl (Or.inl rfl)) ga_nil))))) g_int (nomark _)))))) (gs_one (gs_ret g_bl)) gs_nil)
    (gs_cons (gs_if (gt_cmp (op_neD hr.units) ok_ne (g_cmp (op_eqD hr.units) ok_eq (g_var 13 rfl (Or.inl rfl)) (g_var 11 rfl (Or.inl rfl)) (nomark _)) (g_or (g_cmp op_lt ok_lt (g_bin op_addD ok_add (g_var 10 rfl (Or.inl rfl)) (g_bin op_mulD ok_mul (g_bin op_sub ok_sub (g_var 11 rfl (Or.inl rfl)) g_int) (g_var 6 rfl (Or.inr (Or.inl rfl))))) (g_var 7 rfl (Or.inr (Or.inl rfl))) (nomark _)) (g_one (g_cmp (op_eqD hr.units) ok_eq (g_var 11 rfl (Or.inl rfl)) g_int (nomark _)))) (nomark _)) (gs_one (gs_ret g_bl)) gs_nil)
    (gs_one (gs_ret (g_call T.d__law_fewest (hr.mono (by decide)) tk (ga_cons (g_var 1 rfl (Or.inl rfl)) (ga_cons (g_var 10 rfl (Or.inl rfl)) (ga_cons (g_var 6 rfl (Or.inr (Or.inl rfl))) (ga_cons (g_var 8 rfl (Or.inl rfl)) ga_nil))))))))))))))))))))))
end Law
namespace Law
open PySem L2 Pg
/-! ### views.py, reckoned -/
theorem is_int_int (i a b : Int) : F_is_int [.int i, .int a, .int b] = .ok (.bl (decide (a ≤ i) && decide (i ≤ b))) := by
  simp [F_is_int, mkF, m_is_int, isiD, tyN]
/-- a value that is no int -/
def noInt : D → Bool
  | .non => true
  | .bl _ => true
  | .str _ => true
  | .tup _ => true
  | .lst _ => true
  | _ => false
theorem is_int_no (d : D) (a b : Int) (h : noInt d = true) : F_is_int [d, .int a, .int b] = .ok (.bl false) := by
  cases d <;> first | (simp [F_is_int, mkF, m_is_int, isiD, tyN]; done) | cases h
theorem in_rules (r : Rl) : inD false (.str r.s) (.tup [.str "down", .str "near", .str "up"]) = some (.bl true) := by
  cases r <;> simp [inD, inL, flatD, eqF, Rl.s]
theorem is_view_ok {v : Vw} (h : v.ok) : F_is_view [v.d] = .ok (.bl true) := by
  have ⟨⟨h1, h2, h3, h4, h5, h6⟩, h7⟩ := h
  have e1 : 1 ≤ v.rows := by omega
  have e2 : ¬ min v.rows 30 < v.h := by omega
  simp [F_is_view, mkF, m_is_view, isiD, tyN, Vw.d, mAsg, bTup, setAll, is_int_int, in_rules, h1, h2, h3, h4, h5, h7, e1, e2]
theorem check_view_ok {v : Vw} (h : v.ok) : F_check_view [v.d] = .ok .non := by
  simp [F_check_view, mkF, m_check_view, is_view_ok h]
theorem check_view_bad {d : D} (h : F_is_view [d] = .ok (.bl false)) : F_check_view [d] = .rs "InvalidView" := by
  simp [F_check_view, mkF, m_check_view, h]
theorem ix0 (v : Vw) : ixD v.d (.int 0) = some (.int v.rows) := rfl
theorem ix1 (v : Vw) : ixD v.d (.int 1) = some (.int v.h) := rfl
theorem ix2 (v : Vw) : ixD v.d (.int 2) = some (.int v.s) := rfl
theorem ix3 (v : Vw) : ixD v.d (.int 3) = some (.str v.r.s) := rfl
theorem check_row_ok {k m : Int} (h0 : 0 ≤ k) (h1 : k ≤ m) : F_check_row [.int k, .int m] = .ok .non := by
  simp [F_check_row, mkF, m_check_row, is_int_int, h0, h1]
theorem rest_of_eq (v : Vw) : F_rest_of [v.d] = .ok (.int v.rest) := rfl
theorem rest_size_eq {v : Vw} (h : v.ok) : F_rest_size [v.d] = .ok (.int v.rest) := by
  simp [F_rest_size, mkF, m_rest_size, check_view_ok h, rest_of_eq]
theorem rest_bd {v : Vw} (h : v.wok) : 0 ≤ v.rest ∧ v.rest ≤ 98 := by
  have ⟨h1, h2, h3, h4, h5, h6⟩ := h
  unfold Vw.rest
  omega
theorem mul_bd {k m : Int} {a b : Int} (h0 : 0 ≤ k) (h1 : k ≤ a) (h2 : 0 ≤ m) (h3 : m ≤ b) : 0 ≤ k * m ∧ k * m ≤ a * b :=
  ⟨Int.mul_nonneg h0 h2, Int.mul_le_mul h1 h3 h2 (by omega)⟩
def _root_.Pg.Vw.shows (v : Vw) (k row : Int) : Bool := decide (0 ≤ row - v.first k) && decide (row - v.first k < v.h)
theorem is_int_non (a b : Int) : F_is_int [.non, .int a, .int b] = .ok (.bl false) := is_int_no _ _ _ rfl
theorem is_int_bl (x : Bool) (a b : Int) : F_is_int [.bl x, .int a, .int b] = .ok (.bl false) := is_int_no _ _ _ rfl
theorem is_int_str (x : PySem.Str) (a b : Int) : F_is_int [.str x, .int a, .int b] = .ok (.bl false) := is_int_no _ _ _ rfl
/-! ### the draws -/
def dT : MS := mSeq (mSet 3 (bin modD (bin addD (bin mulD (bin modD (eVar 3) (eC (.int 2147483563))) (eC (.int 69069))) (bin mulD (eC (.int 104723)) (bin addD (eVar 1) (eC (.int 1))))) (eC (.int 2147483563))))
    (mSeq (mSet 3 (bin modD (bin addD (bin mulD (eVar 3) (eVar 3)) (bin fdivD (eVar 3) (eC (.int 3)))) (eC (.int 2147483399))))
    (mRet (bin modD (bin fdivD (bin modD (bin addD (bin mulD (eVar 3) (eVar 3)) (bin fdivD (eVar 3) (eC (.int 7)))) (eC (.int 2147483647))) (eC (.int 11))) (eVar 2))))
def dW (n : Nat) : MS := mWhile (mAnd (mVal (bin gtD (eVar 5) (eC (.int 0)))) (mVal (bin gtD (eVar 4) (eC (.int 0)))))
    (mSeq (mSet 5 (bin fdivD (eVar 5) (eC (.int 1000000))))
    (mSet 4 (bin subD (eVar 4) (eC (.int 1))))) n
def dB : MS := mSeq (mSet 5 (bin fdivD (eVar 3) (bin powD (eC (.int 10)) (eC (.int 18)))))
    (mSeq (dW 100)
    (mIf (mVal (bin gtD (eVar 5) (eC (.int 0)))) (mRet (bin modD (bin modD (eVar 5) (eC (.int 1000000))) (eVar 2))) mNx))
def dM : MS := mSeq (mSet 3 (bin ixD (eVar 0) (bin modD (eVar 1) (bcall lenB (aCons (eVar 0) aNil)))))
    (mSeq (mSet 4 (bin fdivD (eVar 1) (bcall lenB (aCons (eVar 0) aNil))))
    (mSeq (mIf (mAnd (mVal (bin geD (eVar 3) (bin powD (eC (.int 10)) (eC (.int 18))))) (mVal (bin ltD (eVar 4) (eC (.int 60))))) dB mNx)
    (mSet 3 (bin addD (eVar 3) (bin mulD (eC (.int 6553)) (bin fdivD (eVar 1) (bcall lenB (aCons (eVar 0) aNil))))))))
theorem drawn_m_eq : m__law_drawn = mSeq (mSet 3 (bin mulD (eC (.int 7)) (eVar 1))) (mSeq (mIf (mVal (bin neD (eVar 0) (eLst aNil))) dM mNx) dT) := rfl
theorem dT_ok {a : Slot} {k many cell : Int} {x y : Slot} (hm : 0 < many) : ∃ r, dT [a, .dat (.int k), .dat (.int many), .dat (.int cell), x, y] = .rt (.int r) ∧ 0 ≤ r ∧ r < many := by
  have fin : ∀ x : Int, 0 ≤ x % many ∧ x % many < many := fun x => ⟨Int.emod_nonneg _ (by omega), Int.emod_lt_of_pos _ hm⟩
  obtain ⟨c1, e1⟩ : ∃ c1, c1 = (cell % 2147483563 * 69069 + 104723 * (k + 1)) % 2147483563 := ⟨_, rfl⟩
  have b1 : 0 ≤ c1 ∧ c1 < 2147483563 := by rw [e1]; exact ⟨Int.emod_nonneg _ (by omega), Int.emod_lt_of_pos _ (by omega)⟩
  obtain ⟨c2, e2⟩ : ∃ c2, c2 = (c1 * c1 + c1 / 3) % 2147483399 := ⟨_, rfl⟩
  have b2 : 0 ≤ c2 ∧ c2 < 2147483399 := by rw [e2]; exact ⟨Int.emod_nonneg _ (by omega), Int.emod_lt_of_pos _ (by omega)⟩
  refine ⟨(c2 * c2 + c2 / 7) % 2147483647 / 11 % many, ?_, fin _⟩
  unfold dT
  rw [seq_nx (st1 := [a, .dat (.int k), .dat (.int many), .dat (.int c1), x, y])]
  · rw [seq_nx (st1 := [a, .dat (.int k), .dat (.int many), .dat (.int c2), x, y])]
    · simp [mul_l (show -18446744073709551616 < c2 by omega) (show c2 < 18446744073709551616 by omega), mod_p, fdiv_p, hm]
    · simp [mul_l (show -18446744073709551616 < c1 by omega) (show c1 < 18446744073709551616 by omega), mod_p, fdiv_p, e2]
  · simp [mul_r (j := 69069), mul_l (i := 104723), mod_p, e1]
theorem dW_ok (a b c d : Slot) : ∀ (n : Nat) (turn left : Int), 0 ≤ turn → turn < n → ∃ t' l', dW n [a, b, c, d, .dat (.int turn), .dat (.int left)] = .nx [a, b, c, d, .dat (.int t'), .dat (.int l')]
  | 0, turn, left, h0, h => by omega
  | n + 1, turn, left, h0, h => by
    unfold dW mWhile
    by_cases h1 : 0 < left
    · by_cases h2 : 0 < turn
      · obtain ⟨t', l', q⟩ := dW_ok a b c d n (turn - 1) (left / 1000000) (by omega) (by omega)
        refine ⟨t', l', ?_⟩
        simp [h1, h2, fdiv_p]
        exact q
      · exact ⟨turn, left, by simp [h1, h2]⟩
    · exact ⟨turn, left, by simp [h1]⟩
theorem dB_ok {a b : Slot} {many cell turn : Int} {y : Slot} (hm : 0 < many) (h0 : 0 ≤ turn) (h : turn < 60) :
    (∃ r, dB [a, b, .dat (.int many), .dat (.int cell), .dat (.int turn), y] = .rt (.int r) ∧ 0 ≤ r ∧ r < many) ∨ ∃ t' l', dB [a, b, .dat (.int many), .dat (.int cell), .dat (.int turn), y] = .nx [a, b, .dat (.int many), .dat (.int cell), .dat (.int t'), .dat (.int l')] := by
  have fin : ∀ x : Int, 0 ≤ x % many ∧ x % many < many := fun x => ⟨Int.emod_nonneg _ (by omega), Int.emod_lt_of_pos _ hm⟩
  obtain ⟨t', l', q⟩ := dW_ok a b (.dat (.int many)) (.dat (.int cell)) 100 turn (cell / 1000000000000000000) h0 (by omega)
  have e : dB [a, b, .dat (.int many), .dat (.int cell), .dat (.int turn), y] = mIf (mVal (bin gtD (eVar 5) (eC (.int 0)))) (mRet (bin modD (bin modD (eVar 5) (eC (.int 1000000))) (eVar 2))) mNx [a, b, .dat (.int many), .dat (.int cell), .dat (.int t'), .dat (.int l')] := by
    unfold dB
    rw [seq_nx (st1 := [a, b, .dat (.int many), .dat (.int cell), .dat (.int turn), .dat (.int (cell / 1000000000000000000))]) (by simp [fdiv_p]), seq_nx q]
  rw [e]
  by_cases h1 : 0 < l'
  · exact .inl ⟨_, by simp [h1, mod_p, hm]; rfl, fin _⟩
  · exact .inr ⟨t', l', by simp [h1]⟩
theorem drawn_ok {ns : List Int} (hns : ns.length ≤ 63) {k many : Int} (hk : 0 ≤ k) (hm : 0 < many) : ∃ r, F__law_drawn [.scr ns, .int k, .int many] = .ok (.int r) ∧ 0 ≤ r ∧ r < many := by
  have go : ∀ {r}, m__law_drawn [.dat (.scr ns), .dat (.int k), .dat (.int many), .un, .un, .un] = .rt (.int r) → F__law_drawn [.scr ns, .int k, .int many] = .ok (.int r) := fun {r} h => by
    simp only [F__law_drawn, mkF]
    simp [h]
  suffices ∃ r, m__law_drawn [.dat (.scr ns), .dat (.int k), .dat (.int many), .un, .un, .un] = .rt (.int r) ∧ 0 ≤ r ∧ r < many by
    obtain ⟨r, h1, h2⟩ := this
    exact ⟨r, go h1, h2⟩
  rw [drawn_m_eq, seq_nx (st1 := [.dat (.scr ns), .dat (.int k), .dat (.int many), .dat (.int (7 * k)), .un, .un]) (by simp [mul_l (i := 7)])]
  by_cases hn : ns = []
  · rw [seq_nx (st1 := [.dat (.scr ns), .dat (.int k), .dat (.int many), .dat (.int (7 * k)), .un, .un]) (by simp [hn, show (D.lst []) = D.lst [] from rfl])]
    exact dT_ok hm
  · have hl : 0 < (ns.length : Int) := by
      have := List.length_pos_iff.mpr hn
      omega
    obtain ⟨cell, hc⟩ := ix_scr (ns := ns) (j := k % ns.length) (Int.emod_nonneg _ (by omega)) (Int.emod_lt_of_pos _ hl)
    have ht : 0 ≤ k / ns.length := Int.ediv_nonneg hk (by omega)
    have big : ∀ h60 : (ns.length : Int) < 1267650600228229401496703205376, (∃ r, mSeq (mIf (mVal (bin neD (eVar 0) (eLst aNil))) dM mNx) dT [.dat (.scr ns), .dat (.int k), .dat (.int many), .dat (.int (7 * k)), .un, .un] = .rt (.int r) ∧ 0 ≤ r ∧ r < many) := fun h60 => by
      have e : mIf (mVal (bin neD (eVar 0) (eLst aNil))) dM mNx [.dat (.scr ns), .dat (.int k), .dat (.int many), .dat (.int (7 * k)), .un, .un] =
          mSeq (mIf (mAnd (mVal (bin geD (eVar 3) (bin powD (eC (.int 10)) (eC (.int 18))))) (mVal (bin ltD (eVar 4) (eC (.int 60))))) dB mNx) (mSet 3 (bin addD (eVar 3) (bin mulD (eC (.int 6553)) (bin fdivD (eVar 1) (bcall lenB (aCons (eVar 0) aNil))))))
            [.dat (.scr ns), .dat (.int k), .dat (.int many), .dat (.int cell), .dat (.int (k / ns.length)), .un] := by
        rw [if_yes (by simp [hn])]
        unfold dM
        rw [seq_nx (st1 := [.dat (.scr ns), .dat (.int k), .dat (.int many), .dat (.int cell), .un, .un]) (by simp [mod_p hl, hc]), seq_nx (st1 := [.dat (.scr ns), .dat (.int k), .dat (.int many), .dat (.int cell), .dat (.int (k / ns.length)), .un]) (by simp [fdiv_p hl h60])]
      have last : ∀ x y : Slot, ∃ c', mSet 3 (bin addD (eVar 3) (bin mulD (eC (.int 6553)) (bin fdivD (eVar 1) (bcall lenB (aCons (eVar 0) aNil))))) [.dat (.scr ns), .dat (.int k), .dat (.int many), .dat (.int cell), x, y] = .nx [.dat (.scr ns), .dat (.int k), .dat (.int many), .dat (.int c'), x, y] := fun x y => ⟨_, by simp [fdiv_p hl h60, mul_l (i := 6553)]; rfl⟩
      have goon : ∀ x y : Slot, mIf (mAnd (mVal (bin geD (eVar 3) (bin powD (eC (.int 10)) (eC (.int 18))))) (mVal (bin ltD (eVar 4) (eC (.int 60))))) dB mNx [.dat (.scr ns), .dat (.int k), .dat (.int many), .dat (.int cell), .dat (.int (k / ns.length)), .un] = .nx [.dat (.scr ns), .dat (.int k), .dat (.int many), .dat (.int cell), x, y] →
          ∃ r, mSeq (mIf (mVal (bin neD (eVar 0) (eLst aNil))) dM mNx) dT [.dat (.scr ns), .dat (.int k), .dat (.int many), .dat (.int (7 * k)), .un, .un] = .rt (.int r) ∧ 0 ≤ r ∧ r < many := fun x y h => by
        obtain ⟨c', hc'⟩ := last x y
        rw [seq_nx (st1 := [.dat (.scr ns), .dat (.int k), .dat (.int many), .dat (.int c'), x, y]) (by rw [e, seq_nx h, hc'])]
        exact dT_ok hm
      by_cases c1 : 1000000000000000000 ≤ cell ∧ k / ns.length < 60
      · have y : mIf (mAnd (mVal (bin geD (eVar 3) (bin powD (eC (.int 10)) (eC (.int 18))))) (mVal (bin ltD (eVar 4) (eC (.int 60))))) dB mNx [.dat (.scr ns), .dat (.int k), .dat (.int many), .dat (.int cell), .dat (.int (k / ns.length)), .un] = dB [.dat (.scr ns), .dat (.int k), .dat (.int many), .dat (.int cell), .dat (.int (k / ns.length)), .un] := if_yes (by simp [c1.1, c1.2])
        rcases dB_ok (a := .dat (.scr ns)) (b := .dat (.int k)) (cell := cell) (y := .un) hm ht c1.2 with ⟨r, q, q2⟩ | ⟨t', l', q⟩
        · refine ⟨r, ?_, q2⟩
          have e3 : mIf (mVal (bin neD (eVar 0) (eLst aNil))) dM mNx [.dat (.scr ns), .dat (.int k), .dat (.int many), .dat (.int (7 * k)), .un, .un] = .rt (.int r) := by
            rw [e]
            show (match mIf _ _ _ _ with | .nx st => _ | r => r) = _
            rw [y, q]
          show (match mIf _ _ _ _ with | .nx st => _ | r => r) = _
          rw [e3]
        · exact goon _ _ (y.trans q)
      · refine goon (.dat (.int (k / ns.length))) .un (if_no ?_)
        by_cases c2 : 1000000000000000000 ≤ cell
        · have c3 : ¬ k / ns.length < 60 := fun z => c1 ⟨c2, z⟩
          simp [c2, c3]
        · simp [c2]
    exact big (by omega)
/-! ### the law's helpers -/
theorem view_ok {ns : List Int} (hns : ns.length ≤ 63) {k : Int} (hk : 0 ≤ k) : ∃ v : Vw, F__law_view [.scr ns, .int k] = .ok v.d ∧ v.ok ∧ v.h ≤ 7 ∧ v.rows ≤ v.h + 29 ∧ v.s ≤ 20 := by
  obtain ⟨a, a1, a2, a3⟩ := drawn_ok hns hk (show (0 : Int) < 7 by omega)
  obtain ⟨b, b1, b2, b3⟩ := drawn_ok hns (show 0 ≤ k + 1 by omega) (show (0 : Int) < 30 by omega)
  obtain ⟨c, c1, c2, c3⟩ := drawn_ok hns (show 0 ≤ k + 2 by omega) (show (0 : Int) < 20 by omega)
  obtain ⟨d, d1, d2, d3⟩ := drawn_ok hns (show 0 ≤ k + 3 by omega) (show (0 : Int) < 3 by omega)
  have e : ∃ r : Rl, ixD (.lst [.str "down", .str "near", .str "up"]) (.int d) = some (.str r.s) := by
    have : d = 0 ∨ d = 1 ∨ d = 2 := by omega
    rcases this with rfl | rfl | rfl
    · exact ⟨.down, rfl⟩
    · exact ⟨.near, rfl⟩
    · exact ⟨.up, rfl⟩
  obtain ⟨r, e⟩ := e
  refine ⟨⟨1 + a + b, 1 + a, 1 + c, r⟩, ?_, ⟨⟨?_, ?_, ?_, ?_, ?_, ?_⟩, ?_⟩, ?_, ?_, ?_⟩
  · simp [F__law_view, mkF, m__law_view, a1, b1, c1, d1, e, Vw.d]
  all_goals (simp only; omega)
def bads : List D := [.non, .tup [], .tup [.int 5, .int 3, .int 4], .tup [.int 0, .int 1, .int 1, .str "up"], .tup [.int 100, .int 3, .int 4, .str "up"], .tup [.int 5, .int 6, .int 4, .str "up"],
  .tup [.int 40, .int 31, .int 4, .str "up"], .tup [.int 5, .int 3, .int 0, .str "up"], .tup [.int 5, .int 3, .int 61, .str "up"], .tup [.int 5, .int 3, .int 4, .str "left"], .lst [.int 5, .int 3, .int 4, .str "up"], .tup [.int 5, .bl true, .int 4, .str "up"],
  .tup [.int 5, .int 3, .int 4, .non], .tup [.int 5, .str "3", .int 4, .str "up"]]
/-- a value that is no number from 0 to m -/
def NoNum (d : D) (m : Int) : Prop := F_is_int [d, .int 0, .int m] = .ok (.bl false)
/-! ### pages.py, reckoned -/
theorem bounded_eq (v : Vw) (x : Int) : F_bounded [v.d, .int x] = .ok (.int (max 0 (min x v.rest))) := by
  simp [F_bounded, mkF, m_bounded, rest_of_eq]
theorem check_size_ok {v : Vw} {k : Int} (h0 : 1 ≤ k) (h1 : k ≤ v.h) : F_check_size [v.d, .int k] = .ok .non := by
  simp [F_check_size, mkF, m_check_size, ix1, is_int_int, h0, h1]
def tS (v : Vw) (a s : Int) (kvs : List (Int × Int)) (last : List Int) (m : Int) (o x y : Slot) : Store := [.dat v.d, .dat (.int a), .dat (.int s), .owd kvs, .dat (Ls last), .dat (.int m), o, x, y]
def tB : MS := mIf (mVal (bin (dinD true) (eVar 8) (eVar 3))) (mSeq (mPut 3 (eVar 8) (eVar 5)) (mApp 6 (eVar 8))) mNx
theorem tB_ok {v : Vw} {a s m o : Int} {k0 : List (Int × Int)} {e last : List Int} {x : Slot} (h1 : (extE k0 m e).length < 100000) (h2 : e.length < 100000) :
    tB (tS v a s (extE k0 m e) last m (Os e) x (.dat (.int o))) = .nx (tS v a s (extE k0 m (addE k0 m e o)) last m (Os (addE k0 m e o)) x (.dat (.int o))) := by
  unfold tB addE
  cases q : (dgetI (extE k0 m e) o).isSome with
  | true =>
    rw [if_no (by simp [tS, q])]
    rfl
  | false =>
    rw [if_yes (by simp [tS, q])]
    rw [seq_nx (put_ok (kvs := extE k0 m e) (k := o) (v := m) rfl (by simp [tS]) (by simp [tS]) h1)]
    rw [app_Os (xs := e) (k := o) rfl (by simp [tS]) h2, put_new m q]
    rw [if_neg (by decide)]
    unfold extE
    rw [List.map_append, ← List.append_assoc]
    rfl
theorem tR_ok {v : Vw} (h : v.wok) {a s m r : Int} {k0 : List (Int × Int)} {e last : List Int} {y : Slot} (hs : 0 ≤ s) (r0 : 0 ≤ r) (r1 : r ≤ v.rest) (hk : k0.length ≤ 1000) (he : e.length ≤ 1000) :
    ∃ y', mFor (iSeq tupD (eTup (aCons (eCall 2 F_bounded (aCons (eVar 0) (aCons (bin addD (eVar 7) (eVar 2)) aNil))) (aCons (eCall 2 F_bounded (aCons (eVar 0) (aCons (bin subD (eVar 7) (eVar 2)) aNil))) aNil)))) (bName 8) tB
      (tS v a s (extE k0 m e) last m (Os e) (.dat (.int r)) y) = .nx (tS v a s (extE k0 m (rowE v.rest s k0 m e r)) last m (Os (rowE v.rest s k0 m e r)) (.dat (.int r)) y') := by
  have ⟨q0, q1⟩ := rest_bd h
  have ll : ∀ e : List Int, (extE k0 m e).length = k0.length + e.length := fun e => by simp [extE]
  have it : (iSeq tupD (eTup (aCons (eCall 2 F_bounded (aCons (eVar 0) (aCons (bin addD (eVar 7) (eVar 2)) aNil))) (aCons (eCall 2 F_bounded (aCons (eVar 0) (aCons (bin subD (eVar 7) (eVar 2)) aNil))) aNil)))) (tS v a s (extE k0 m e) last m (Os e) (.dat (.int r)) y) = .ok [.int (min (r + s) v.rest), .int (max (r - s) 0)] := by
    simp [tS, bounded_eq]
    omega
  have l1 := addE_len k0 m e (min (r + s) v.rest)
  refine ⟨.dat (.int (max (r - s) 0)), ?_⟩
  unfold mFor
  rw [it]
  have b1 : bName 8 (.int (min (r + s) v.rest)) (tS v a s (extE k0 m e) last m (Os e) (.dat (.int r)) y) = some (tS v a s (extE k0 m e) last m (Os e) (.dat (.int r)) (.dat (.int (min (r + s) v.rest)))) := rfl
  have b2 : bName 8 (.int (max (r - s) 0)) (tS v a s (extE k0 m (addE k0 m e (min (r + s) v.rest))) last m (Os (addE k0 m e (min (r + s) v.rest))) (.dat (.int r)) (.dat (.int (min (r + s) v.rest)))) = some (tS v a s (extE k0 m (addE k0 m e (min (r + s) v.rest))) last m (Os (addE k0 m e (min (r + s) v.rest))) (.dat (.int r)) (.dat (.int (max (r - s) 0)))) := rfl
  simp only [thn_ok, mLoop]
  rw [b1]
  simp only []
  rw [tB_ok (by rw [ll]; omega) (by omega)]
  simp only []
  rw [b2]
  simp only []
  rw [tB_ok (by rw [ll]; omega) (by omega)]
  rfl
def tL : MS := mFor (iSeq lstD (eVar 4)) (bName 7) (mFor (iSeq tupD (eTup (aCons (eCall 2 F_bounded (aCons (eVar 0) (aCons (bin addD (eVar 7) (eVar 2)) aNil))) (aCons (eCall 2 F_bounded (aCons (eVar 0) (aCons (bin subD (eVar 7) (eVar 2)) aNil))) aNil)))) (bName 8) tB)
theorem tL_ok {v : Vw} (h : v.wok) {a s m : Int} {k0 : List (Int × Int)} {last : List Int} {x y : Slot} (hs : 0 ≤ s) (hl : ∀ r ∈ last, 0 ≤ r ∧ r ≤ v.rest) (hk : k0.length ≤ 1000) (hn : last.length ≤ 400) :
    ∃ x' y', tL (tS v a s k0 last m (Os []) x y) = .nx (tS v a s (extE k0 m (moreE v.rest s k0 m last)) last m (Os (moreE v.rest s k0 m last)) x' y') := by
  unfold tL
  obtain ⟨st', q1, x', y', q2⟩ := for_acc (it := iSeq lstD (eVar 4)) (b := bName 7) (body := mFor (iSeq tupD (eTup (aCons (eCall 2 F_bounded (aCons (eVar 0) (aCons (bin addD (eVar 7) (eVar 2)) aNil))) (aCons (eCall 2 F_bounded (aCons (eVar 0) (aCons (bin subD (eVar 7) (eVar 2)) aNil))) aNil)))) (bName 8) tB)
    (I := fun pre st => ∃ x' y', st = tS v a s (extE k0 m (pre.foldl (rowE v.rest s k0 m) [])) last m (Os (pre.foldl (rowE v.rest s k0 m) [])) x' y') (st := tS v a s k0 last m (Os []) x y) (ns := last)
    (by simp [tS, Ls]) ⟨x, y, by simp [extE]⟩ fun pre k c e st hst => by
      obtain ⟨x, y, rfl⟩ := hst
      have ⟨m1, m2⟩ := pre_lt e
      have ⟨r0, r1⟩ := hl k m1
      have fl := fold_len v.rest s k0 m pre []
      obtain ⟨y', q⟩ := tR_ok h (a := a) (last := last) (m := m) (y := y) (k0 := k0) (e := pre.foldl (rowE v.rest s k0 m) []) hs r0 r1 hk (by simp at fl; omega)
      exact ⟨_, _, rfl, q, .dat (.int k), y', by rw [List.foldl_append]; rfl⟩
  subst q2
  exact ⟨x', y', q1⟩
def tW (n : Nat) : MS := mWhile (mVal (bin neD (eVar 4) (eLst aNil)))
    (mSeq (mPar [5, 6] (qVal (bin addD (eVar 5) (eC (.int 1))) (qOwn aNil qNil)))
    (mSeq tL
    (mFrz 6 (mSet 4 (eVar 6))))) n
theorem tW_ok {v : Vw} (h : v.wok) {a s : Int} (ha : 0 ≤ a) (ha2 : a ≤ v.rest) (hs : 0 ≤ s) : ∀ (n : Nat) (kvs : List (Int × Int)) (m : Nat) (o x y : Slot), Bfs v.rest s a kvs m → Enough v.rest kvs m n →
    ∃ l' m' o' x' y', tW n (tS v a s kvs (rowsAt kvs m) m o x y) = .nx [.dat v.d, .dat (.int a), .dat (.int s), .owd (bfsR v.rest s n kvs m), l', m', o', x', y']
  | 0, kvs, m, o, x, y, hb, he => by
    rcases he with ⟨_, z⟩ | z <;> omega
  | n + 1, kvs, m, o, x, y, hb, he => by
    have ⟨q0, q1⟩ := rest_bd h
    unfold tW mWhile bfsR
    by_cases q : rowsAt kvs (m : Int) = []
    · rw [if_pos q]
      refine ⟨.dat (Ls (rowsAt kvs m)), .dat (.int m), o, x, y, ?_⟩
      have c : (mVal (bin neD (eVar 4) (eLst aNil))) (thaw (tS v a s kvs (rowsAt kvs m) m o x y)) = .ok false := by simp [tS, q, Ls, show neD (.lst []) (.lst []) = some (.bl false) from ne_Ls [] []]
      rw [c]
      simp only [thn_ok, if_neg (show ¬ (false = true) by decide)]
      rfl
    · rw [if_neg q]
      have c : (mVal (bin neD (eVar 4) (eLst aNil))) (thaw (tS v a s kvs (rowsAt kvs m) m o x y)) = .ok true := by simp [tS, q]
      rw [c]
      simp only [thn_ok, if_pos]
      have hrows : ∀ r ∈ rowsAt kvs (m : Int), 0 ≤ r ∧ r ≤ v.rest := fun r hr => hb.bd _ (mem_rowsAt.mp hr)
      have hlen : (rowsAt kvs (m : Int)).length ≤ kvs.length := by
        unfold rowsAt
        rw [List.length_map]
        exact List.length_filter_le _ _
      have hk := hb.len q0
      obtain ⟨x', y', q2⟩ := tL_ok h (a := a) (m := (m : Int) + 1) (k0 := kvs) (last := rowsAt kvs m) (x := x) (y := y) hs hrows (by omega) (by omega)
      obtain ⟨l2, m2, o2, x2, y2, q3⟩ := tW_ok h ha ha2 hs n (lev v.rest s ((m : Int) + 1) kvs (rowsAt kvs m)) (m + 1) (.dat (Ls (moreE v.rest s kvs ((m : Int) + 1) (rowsAt kvs m)))) x' y' (hb.next ha ha2 hs) (hb.enough ha ha2 hs q he)
      refine ⟨l2, m2, o2, x2, y2, ?_⟩
      rw [seq_nx (st1 := tS v a s kvs (rowsAt kvs m) ((m : Int) + 1) (Os []) x y) (by simp [mPar, qVal, qOwn, qNil, setS, tS, Os])]
      rw [seq_nx q2]
      have er : rowsAt (lev v.rest s ((m : Int) + 1) kvs (rowsAt kvs m)) ((m : Int) + 1) = moreE v.rest s kvs ((m : Int) + 1) (rowsAt kvs m) := by
        rw [lev_more', rowsAt_ext _ hb.none]
      have e4 : mFrz 6 (mSet 4 (eVar 6)) (tS v a s (extE kvs ((m : Int) + 1) (moreE v.rest s kvs ((m : Int) + 1) (rowsAt kvs m))) (rowsAt kvs m) ((m : Int) + 1) (Os (moreE v.rest s kvs ((m : Int) + 1) (rowsAt kvs m))) x' y') =
          .nx (tS v a s (lev v.rest s ((m : Int) + 1) kvs (rowsAt kvs m)) (rowsAt (lev v.rest s ((m : Int) + 1) kvs (rowsAt kvs m)) ((m : Int) + 1)) ((m : Int) + 1) (.dat (Ls (moreE v.rest s kvs ((m : Int) + 1) (rowsAt kvs m)))) x' y') := by
        rw [er, lev_more']
        simp [tS, frz, Os, Slot.mine, Ls]
      rw [e4]
      exact q3
theorem turns_from_eq {v : Vw} (h : v.wok) {a s : Int} (ha : 0 ≤ a) (ha2 : a ≤ v.rest) (hs : 0 ≤ s) : F_turns_from [v.d, .int a, .int s] = .ok (.dic false (bfs v.rest s a)) := by
  have ⟨q0, q1⟩ := rest_bd h
  refine mkF_rt rfl ?_
  show m_turns_from [.dat v.d, .dat (.int a), .dat (.int s), .un, .un, .un, .un, .un, .un] = _
  unfold m_turns_from
  rw [seq_nx (st1 := tS v a s [(a, 0)] [a] 0 .un .un .un) (by simp [mPar, qVal, qOwd, qNil, setS, tS, Ls])]
  have e0 : rowsAt [(a, (0 : Int))] ((0 : Nat) : Int) = [a] := by simp [rowsAt]
  obtain ⟨l', m', o', x', y', q⟩ := tW_ok h ha ha2 hs 100 [(a, 0)] 0 .un .un .un (Bfs.start ha ha2) (enough0 q1)
  rw [e0] at q
  show mSeq (tW 100) (mRet (eVar 3)) (tS v a s [(a, 0)] [a] ((0 : Nat) : Int) .un .un .un) = _
  rw [seq_nx q]
  simp
  rfl
theorem reachable_eq {v : Vw} (h : v.ok) {s : Int} (hs : 1 ≤ s) (hs2 : s ≤ v.h) (hr : v.rest ≤ 62) : F_reachable [v.d, .int s] = .ok (Ls (sortI ((bfs v.rest s 0).map (·.1)))) := by
  have ⟨q0, q1⟩ := rest_bd h.w
  have fl := (far_bfs (L := v.rest) (s := s) (a := 0) (by omega) q0 (by omega) q1).len
  simp [F_reachable, mkF, m_reachable, check_view_ok h, check_size_ok hs hs2, turns_from_eq h.w (a := 0) (by omega) q0 (show 0 ≤ s by omega), sort_dic false (bfs v.rest s 0) (show _ < 64 by omega)]
theorem fewest_eq {v : Vw} (h : v.ok) {a s x : Int} (ha : 0 ≤ a) (ha2 : a ≤ v.rest) (hs : 1 ≤ s) (hs2 : s ≤ v.h) (hx : 0 ≤ x) (hx2 : x ≤ v.rest) : F_fewest_turns [v.d, .int a, .int s, .int x] = .ok (optD (dgetI (bfs v.rest s a) x)) := by
  simp [F_fewest_turns, mkF, m_fewest_turns, check_view_ok h, check_size_ok hs hs2, rest_of_eq, check_row_ok ha ha2, check_row_ok hx hx2, turns_from_eq h.w ha ha2 (show 0 ≤ s by omega)]
theorem turned_eq {v : Vw} (h : v.ok) {a s t : Int} (ha : 0 ≤ a) (ha2 : a ≤ v.rest) (hs : 1 ≤ s) (hs2 : s ≤ v.h) (ht : -99 ≤ t) (ht2 : t ≤ 99) : F_turned [v.d, .int a, .int s, .int t] = .ok (.int (max 0 (min (a + t * s) v.rest))) := by
  simp [F_turned, mkF, m_turned, check_view_ok h, check_size_ok hs hs2, rest_of_eq, check_row_ok ha ha2, is_int_int, ht, ht2, mul_l (show -18446744073709551616 < t by omega) (show t < 18446744073709551616 by omega), bounded_eq]
/-! ### fewest turns -/
theorem fewest0 {v : Vw} (h : v.ok) {s x : Int} (hs : 1 ≤ s) (hs2 : s ≤ v.h) (hx : 0 ≤ x) (hx2 : x ≤ v.rest) : F_fewest_turns [v.d, .int 0, .int s, .int x] = .ok (optD (dgetI (bfs v.rest s 0) x)) :=
  fewest_eq h (by omega) (rest_bd h.w).1 hs hs2 hx hx2
def told (v : Vw) (s : Int) : List Int := (iota (v.rest + 1)).filter fun x => decide (x % s = 0) || decide ((v.rest - x) % s = 0)
theorem mem_told {v : Vw} {s x : Int} (h0 : 0 ≤ x) (h1 : x ≤ v.rest) : x ∈ told v s ↔ (x % s = 0 ∨ (v.rest - x) % s = 0) := by
  unfold told
  rw [List.mem_filter, mem_iota]
  simp only [Bool.or_eq_true, decide_eq_true_eq]
  exact ⟨fun h => h.2, fun h => ⟨⟨h0, by omega⟩, h⟩⟩
@[simp] theorem is_opt (o : Option Int) : isD (optD o) .non = some (.bl o.isNone) := by cases o <;> rfl
@[simp] theorem isn_opt (o : Option Int) : isnD (optD o) .non = some (.bl o.isSome) := by cases o <;> rfl
theorem law_fewest_eq {v : Vw} (h : v.ok) {a s : Int} (ha : 0 ≤ a) (ha2 : a ≤ v.rest) (hs : 1 ≤ s) (hs2 : s ≤ v.h) : F__law_fewest [v.d, .int a, .int s, Ls (told v s)] = .ok (.bl true) := by
  have ⟨r0, r1⟩ := rest_bd h.w
  have ⟨g1, g2, g3, g4, g5, g6⟩ := h.w
  have s30 : s ≤ 30 := by omega
  refine mkF_rt rfl ?_
  show m__law_fewest [.dat v.d, .dat (.int a), .dat (.int s), .dat (Ls (told v s)), .un, .un, .un, .un] = _
  unfold m__law_fewest
  rw [seq_nx (st1 := [.dat v.d, .dat (.int a), .dat (.int s), .dat (Ls (told v s)), .dat (.int v.rest), .un, .un, .un]) (by simp [rest_size_eq h])]
  have loop : ∀ (body : MS), body = (mSeq (mSet 6 (eCall 4 F_fewest_turns (aCons (eVar 0) (aCons (eC (.int 0)) (aCons (eVar 2) (aCons (eVar 5) aNil))))))
    (mSeq (mIf (mOr (mVal (bin neD (bin isD (eVar 6) (eC .non)) (bin (inD true) (eVar 5) (eVar 3)))) (mAnd (mVal (bin isnD (eVar 6) (eC .non))) (mVal (bin ltD (bin mulD (eVar 6) (eVar 2)) (eVar 5))))) (mRet (eC (.bl false))) mNx)
    (mSeq (mIf (mAnd (mVal (bin isnD (eVar 6) (eC .non))) (mAnd (mVal (bin eqD (bin modD (eVar 5) (eVar 2)) (eC (.int 0)))) (mVal (bin neD (eVar 6) (bin fdivD (eVar 5) (eVar 2)))))) (mRet (eC (.bl false))) mNx)
    (mIf (mAnd (mVal (bin isnD (eVar 6) (eC .non))) (mAnd (mVal (bin neD (bin modD (eVar 5) (eVar 2)) (eC (.int 0)))) (mVal (bin neD (eVar 6) (bin addD (bin fdivD (bin subD (bin addD (eVar 4) (eVar 2)) (eC (.int 1))) (eVar 2)) (bin fdivD (bin subD (eVar 4) (eVar 5)) (eVar 2))))))) (mRet (eC (.bl false))) mNx)))) →
      ∃ st', mFor (iArg range1A (aCons (bin addD (eVar 4) (eC (.int 1))) aNil)) (bName 5) body [.dat v.d, .dat (.int a), .dat (.int s), .dat (Ls (told v s)), .dat (.int v.rest), .un, .un, .un] = .nx st' ∧ ∃ x y, st' = [.dat v.d, .dat (.int a), .dat (.int s), .dat (Ls (told v s)), .dat (.int v.rest), x, y, .un] := fun body hb => by
    subst hb
    refine for_nx (ds := (iota (v.rest + 1)).map D.int) (by simp [range1_ok (show v.rest + 1 ≤ 100000 by omega) (show 0 ≤ v.rest + 1 by omega)]) ⟨_, _, rfl⟩ fun d hd st hst => ?_
    obtain ⟨x, hx, rfl⟩ := List.mem_map.mp hd
    have ⟨x0, x1⟩ := mem_iota.mp hx
    obtain ⟨y, z, rfl⟩ := hst
    have x2 : x ≤ v.rest := by omega
    have mt := mem_told (v := v) (s := s) x0 x2
    refine ⟨_, [.dat v.d, .dat (.int a), .dat (.int s), .dat (Ls (told v s)), .dat (.int v.rest), .dat (.int x), .dat (optD (dgetI (bfs v.rest s 0) x)), .un], rfl, ?_, _, _, rfl⟩
    rw [seq_nx (st1 := [.dat v.d, .dat (.int a), .dat (.int s), .dat (Ls (told v s)), .dat (.int v.rest), .dat (.int x), .dat (optD (dgetI (bfs v.rest s 0) x)), .un]) (by simp [fewest0 h hs hs2 x0 x2])]
    by_cases c1 : x % s = 0
    · have e := get_mult hs r0 r1 x0 x2 c1
      have em : x / s * s = x := Int.ediv_mul_cancel (Int.dvd_of_emod_eq_zero c1)
      have hm : x ∈ told v s := mt.mpr (.inl c1)
      have q0 := Int.ediv_nonneg x0 (show 0 ≤ s by omega)
      rw [e]
      simp [optD, hm, mod_p (show 0 < s by omega), fdiv_p (show 0 < s by omega) (show s < 1267650600228229401496703205376 by omega), mul_r (show -18446744073709551616 < s by omega) (show s < 18446744073709551616 by omega), em, c1]
    · by_cases c2 : (v.rest - x) % s = 0
      · have e := get_other hs r0 r1 x0 x2 c1 c2
        have hm : x ∈ told v s := mt.mpr (.inr c2)
        have cl := (cdiv_le (a := v.rest) (s := s) (n := (v.rest + s - 1) / s) (show 0 < s by omega)).mp (Int.le_refl _)
        have em : (v.rest - x) / s * s = v.rest - x := Int.ediv_mul_cancel (Int.dvd_of_emod_eq_zero c2)
        have nl : ¬ ((v.rest + s - 1) / s + (v.rest - x) / s) * s < x := by rw [Int.add_mul]; omega
        rw [e]
        simp [optD, hm, mod_p (show 0 < s by omega), fdiv_p (show 0 < s by omega) (show s < 1267650600228229401496703205376 by omega), mul_r (show -18446744073709551616 < s by omega) (show s < 18446744073709551616 by omega), nl, c1]
      · have e := get_none hs r0 r1 (x := x) (by simp [c1, c2])
        have hm : ¬ x ∈ told v s := fun z => (mt.mp z).elim c1 c2
        rw [e]
        simp [optD, hm]
  obtain ⟨st', q, x, y, rfl⟩ := loop _ rfl
  rw [seq_nx q]
  rw [seq_nx (st1 := [.dat v.d, .dat (.int a), .dat (.int s), .dat (Ls (told v s)), .dat (.int v.rest), x, y, .dat (Ls [(a + s - 1) / s, (v.rest - a + s - 1) / s])]) (by
    simp [fewest_eq h ha ha2 hs hs2 (x := 0) (by omega) r0, fewest_eq h ha ha2 hs hs2 (x := v.rest) r0 (Int.le_refl _), get_zero hs ha ha2 r1, get_end hs ha ha2 r1, optD, Ls])]
  have e2 : ∀ a b : Int, (D.lst [.int a, .int b]) = Ls [a, b] := fun _ _ => rfl
  simp [fdiv_p (show 0 < s by omega) (show s < 1267650600228229401496703205376 by omega), e2]
/-! ### the law -/
def B (ns : List Int) (v : Vw) (s : Int) (a b c d e f : Slot) : Store := [.dat (.scr ns), .dat v.d, .dat (.int v.rows), .dat (.int v.h), .dat (.int v.s), .dat (.str v.r.s), .dat (.int s), .dat (.int v.rest), a, b, c, d, e, f]
theorem sort_set {xs : List Int} (h : xs.Pairwise (· < ·)) (hl : xs.length < 64) : sortsetD (Ls xs) = some (Ls xs) := by
  have e : sortI (dedupI xs) = xs := by
    apply sorted_ext
    · exact ((sortI_sorted _).and ((sortI_perm _).nodup_iff.mpr (dedup_nodup xs))).imp fun h => by omega
    · exact h
    · intro a
      rw [(sortI_perm _).mem_iff, mem_dedup]
  show ((intsOf _).bind _) = _
  rw [intsOf_map]
  show (if _ then _ else _) = _
  rw [e, if_pos ⟨hl, by omega⟩]
  rfl
theorem law_true : ∀ ns : List Int, ns.length ≤ 63 → F_law [.scr ns] = .ok (.bl true) := fun ns hns => by
  obtain ⟨v, v1, v2, v3, v4, v5⟩ := view_ok hns (show (0 : Int) ≤ 10 by omega)
  have ⟨⟨g1, g2, g3, g4, g5, g6⟩, g7⟩ := v2
  have ⟨r0, r1⟩ := rest_bd v2.w
  have r2 : v.rest ≤ 29 := by unfold Vw.rest; omega
  obtain ⟨s', s1, s2, s3⟩ := drawn_ok hns (show (0 : Int) ≤ 1 by omega) (show 0 < v.h by omega)
  obtain ⟨s, hs⟩ : ∃ s, s = 1 + s' := ⟨_, rfl⟩
  have p1 : 1 ≤ s := by omega
  have p2 : s ≤ v.h := by omega
  have p3 : s ≤ 30 := by omega
  obtain ⟨a, a1, a2, a3⟩ := drawn_ok hns (show (0 : Int) ≤ 2 by omega) (show 0 < v.rest + 1 by omega)
  obtain ⟨t, t1, t2, t3⟩ := drawn_ok hns (show (0 : Int) ≤ 3 by omega) (show (0 : Int) < 12 by omega)
  have a4 : a ≤ v.rest := by omega
  have ts0 : 0 ≤ t * s := Int.mul_nonneg t2 (by omega)
  obtain ⟨row, hrow⟩ : ∃ row, row = min (a + t * s) v.rest := ⟨_, rfl⟩
  have hrow0 : 0 ≤ row ∧ row ≤ v.rest := by omega
  refine mkF_rt rfl ?_
  show m_law [.dat (.scr ns), .un, .un, .un, .un, .un, .un, .un, .un, .un, .un, .un, .un, .un] = .rt (.bl true)
  unfold m_law
  rw [seq_nx (st1 := [.dat (.scr ns), .dat v.d, .un, .un, .un, .un, .un, .un, .un, .un, .un, .un, .un, .un]) (by simp [S_law_1, v1])]
  rw [seq_nx (st1 := [.dat (.scr ns), .dat v.d, .dat (.int v.rows), .dat (.int v.h), .dat (.int v.s), .dat (.str v.r.s), .un, .un, .un, .un, .un, .un, .un, .un]) (by simp [S_law_2, mAsg, bTup, Vw.d, setAll])]
  rw [seq_nx (st1 := B ns v s .un .un .un .un .un .un) (by simp [S_law_3, s1, B, mAsg, bTup, setAll, rest_size_eq v2, hs])]
  have ek := keys_sorted (L := v.rest) p1 r0 r1
  rw [seq_nx (st1 := B ns v s (.dat (Ls (told v s))) .un .un .un .un .un) (by
    simp [S_law_4, B, reachable_eq v2 p1 p2 (show v.rest ≤ 62 by omega), ek, told])]
  have q5 := comp_ints (it := iArg range1A (aCons (bin addD (eVar 7) (eC (.int 1))) aNil)) (own := [12]) (b := bName 12) (c := mOr (mVal (bin eqD (bin modD (eVar 12) (eVar 6)) (eC (.int 0)))) (mVal (bin eqD (bin modD (bin subD (eVar 7) (eVar 12)) (eVar 6)) (eC (.int 0))))) (e := eVar 12) (st := B ns v s (.dat (Ls (told v s))) .un .un .un .un .un) (ns := iota (v.rest + 1))
    (p := fun x => decide (x % s = 0) || decide ((v.rest - x) % s = 0)) (g := fun k => k)
    (by simp [B, range1_ok (show v.rest + 1 ≤ 100000 by omega) (show 0 ≤ v.rest + 1 by omega)]) (by rw [iota_length]; omega) (fun k hk => by
      refine ⟨_, rfl, ?_, fun _ => by simp [wipeS, B]⟩
      by_cases z : k % s = 0 <;> simp [wipeS, B, mod_p (show 0 < s by omega), z])
  rw [List.map_id'] at q5
  have tl : (told v s).length < 64 := by
    have a := List.length_filter_le (fun x => decide (x % s = 0) || decide ((v.rest - x) % s = 0)) (iota (v.rest + 1))
    have b := iota_length (v.rest + 1)
    unfold told
    omega
  have tp : (told v s).Pairwise (· < ·) := (iota_rise _).filter _
  rw [seq_nx (st1 := B ns v s (.dat (Ls (told v s))) (.dat (Ls (told v s))) .un .un .un .un) (by
    unfold S_law_5
    refine set_ok ?_
    rw [unr_eq, q5]
    show R.of (sortsetD (Ls (told v s))) = _
    rw [sort_set tp tl]
    rfl)]
  have m0 : (0 : Int) ∈ told v s := (mem_told (by omega) r0).mpr (.inl (by simp))
  have m1 : v.rest ∈ told v s := (mem_told r0 (by omega)).mpr (.inr (by simp))
  rw [seq_nx (st1 := B ns v s (.dat (Ls (told v s))) (.dat (Ls (told v s))) .un .un .un .un) (by
    unfold S_law_6
    rw [if_no]
    · rfl
    · simp [B, m0, m1])]
  have e3 : rg3B [.int 0, .int (v.rest + 1), .int s] = some (Ls (rg3L 0 (v.rest + 1) s)) := by
    show (if _ then _ else _) = _
    rw [if_pos ⟨⟨by omega, by omega⟩, ⟨by omega, by omega⟩, p1, by omega⟩]
    rfl
  have e7 : (v.rest % s = 0) ↔ told v s = rg3L 0 (v.rest + 1) s := by
    constructor
    · intro h
      apply sorted_ext tp (rg3_rise p1)
      intro x
      rw [rg3_mem p1]
      constructor
      · intro hx
        have hb := mem_iota.mp (List.mem_filter.mp hx).1
        rcases (mem_told hb.1 (by omega)).mp hx with z | z
        · exact ⟨hb.1, hb.2, z⟩
        · refine ⟨hb.1, hb.2, ?_⟩
          have := Int.emod_emod_of_dvd v.rest (Int.dvd_refl s)
          have d1 := Int.dvd_of_emod_eq_zero h
          have d2 := Int.dvd_of_emod_eq_zero z
          have d3 := Int.dvd_sub d1 d2
          rw [show v.rest - (v.rest - x) = x by omega] at d3
          exact Int.emod_eq_zero_of_dvd d3
      · rintro ⟨x0, x1, x2⟩
        exact (mem_told x0 (by omega)).mpr (.inl x2)
    · intro h
      rw [h] at m1
      exact ((rg3_mem p1).mp m1).2.2
  rw [seq_nx (st1 := B ns v s (.dat (Ls (told v s))) (.dat (Ls (told v s))) .un .un .un .un) (by
    unfold S_law_7
    rw [if_no]
    · rfl
    · by_cases z : v.rest % s = 0
      · simp [B, e3, mod_p (show 0 < s by omega), z, e7.mp z]
      · have : ¬ told v s = rg3L 0 (v.rest + 1) s := fun q => z (e7.mpr q)
        simp [B, e3, mod_p (show 0 < s by omega), z, this])]
  rw [seq_nx (st1 := B ns v s (.dat (Ls (told v s))) (.dat (Ls (told v s))) (.dat (.int a)) (.dat (.int t)) .un .un) (by simp [S_law_8, B, mPar, qVal, qNil, setS, a1, t1])]
  have tn : ∀ a t : Int, 0 ≤ a → a ≤ v.rest → -99 ≤ t → t ≤ 99 → F_turned [v.d, .int a, .int s, .int t] = .ok (.int (max 0 (min (a + t * s) v.rest))) := fun a t h1 h2 h3 h4 => turned_eq v2 h1 h2 p1 p2 h3 h4
  rw [seq_nx (st1 := B ns v s (.dat (Ls (told v s))) (.dat (Ls (told v s))) (.dat (.int a)) (.dat (.int t)) (.dat (.int row)) .un) (by
    simp [S_law_9, B, tn a t a2 a4 (by omega) (by omega)]
    omega)]
  have mt : mulD (.int t) (.int s) = some (.int (t * s)) := mul_r (by omega) (by omega)
  rw [seq_nx (st1 := B ns v s (.dat (Ls (told v s))) (.dat (Ls (told v s))) (.dat (.int a)) (.dat (.int t)) (.dat (.int row)) .un) (by
    unfold S_law_10
    rw [if_no]
    · rfl
    · have e := tn a 0 a2 a4 (by omega) (by omega)
      rw [show max 0 (min (a + 0 * s) v.rest) = a by rw [Int.zero_mul]; omega] at e
      simp [B, mt, e, ← hrow])]
  rw [seq_nx (st1 := B ns v s (.dat (Ls (told v s))) (.dat (Ls (told v s))) (.dat (.int a)) (.dat (.int t)) (.dat (.int row)) .un) (by
    unfold S_law_11
    rw [if_no]
    · rfl
    · by_cases z : a + t * s ≤ v.rest
      · have e := tn row (-t) hrow0.1 hrow0.2 (by omega) (by omega)
        rw [show max 0 (min (row + -t * s) v.rest) = a by rw [Int.neg_mul]; omega] at e
        simp [B, mt, e, z]
      · simp [B, mt, z])]
  rw [seq_nx (st1 := B ns v s (.dat (Ls (told v s))) (.dat (Ls (told v s))) (.dat (.int a)) (.dat (.int t)) (.dat (.int row)) .un) (by
    unfold S_law_12
    rw [if_no]
    · rfl
    · have e1 := tn a 99 a2 a4 (by omega) (by omega)
      have e2 := tn a (-99) a2 a4 (by omega) (by omega)
      rw [show max 0 (min (a + 99 * s) v.rest) = v.rest by omega] at e1
      rw [show max 0 (min (a + -99 * s) v.rest) = 0 by omega] at e2
      simp [B, e1, e2])]
  obtain ⟨m, f1, f2, f3, f4⟩ := get_fwd (L := v.rest) (s := s) (a := a) (t := t) p1 a2 a4 r1 t2
  rw [← hrow] at f1
  rw [seq_nx (st1 := B ns v s (.dat (Ls (told v s))) (.dat (Ls (told v s))) (.dat (.int a)) (.dat (.int t)) (.dat (.int row)) (.dat (.int m))) (by
    simp [S_law_13, B, fewest_eq v2 a2 a4 p1 p2 hrow0.1 hrow0.2, f1, optD])]
  rw [seq_nx (st1 := B ns v s (.dat (Ls (told v s))) (.dat (Ls (told v s))) (.dat (.int a)) (.dat (.int t)) (.dat (.int row)) (.dat (.int m))) (by
    unfold S_law_14
    rw [if_no]
    · rfl
    · have : ¬ t < m := by omega
      simp [B, fewest_eq v2 a2 a4 p1 p2 a2 a4, get_self p1 a2 a4 r1, optD, this])]
  rw [seq_nx (st1 := B ns v s (.dat (Ls (told v s))) (.dat (Ls (told v s))) (.dat (.int a)) (.dat (.int t)) (.dat (.int row)) (.dat (.int m))) (by
    unfold S_law_15
    rw [if_no]
    · rfl
    · have mt1 : mulD (.int (t - 1)) (.int s) = some (.int ((t - 1) * s)) := mul_r (by omega) (by omega)
      by_cases z : a + (t - 1) * s < v.rest
      · have : m = t := f4.mpr (.inl z)
        simp [B, mt1, z, this]
      · by_cases z2 : t = 0
        · have : m = t := f4.mpr (.inr z2)
          have hz : decide (t = 0) = true := by simp [z2]
          have hz' : decide (a + (t - 1) * s < v.rest) = false := by simpa using z
          simp only [S_law_14, B, mIf_eq, mVal_eq, bin_eq, vOr_eq, eVar_eq, eC_eq, thaw_cons, thaw_nil, thaw1_dat, thaw1_own, List.getElem?_cons_succ, List.getElem?_cons_zero, bind_ok, of_some, add_int, sub_int, mt1, lt_int, eq_int, asB_bl, hz, hz', this, decide_true, ne_bl]
          rfl
        · have : ¬ m = t := fun q => (f4.mp q).elim z z2
          simp [B, mt1, z, z2, this])]
  unfold S_law_16
  have lf := law_fewest_eq v2 a2 a4 p1 p2
  simp [B, lf]
end Law
namespace Law
open PySem PySem.Spec PyProof.Rows L2 Pg
def fa : List He.Fa := ([.free "len", .free "range", .free "min", .free "max", .free "abs", .free "isinstance", .free "int", .free "bool", .free "str", .free "tuple", .free "list", .free "sum", .free "sorted", .free "any", .free "all", .free "zip", .free "enumerate", .free "set", .int "MAX_ROWS" 99, .int "MAX_HEIGHT" 30, .int "MAX_STEPS" 60, .int "MAX_TURNS" 99, .str "DOWN" "down", .str "NEAR" "near", .str "UP" "up", .glo "RULES", .glo "ScrollError", .exc "ScrollError", .glo "InvalidView", .exc "InvalidView"]
  ++ [.glo "InvalidRow", .exc "InvalidRow", .glo "InvalidNumber", .exc "InvalidNumber", .glo "InvalidSize", .exc "InvalidSize", .glo "is_int", .glo "is_view", .glo "check_view", .glo "check_row", .glo "rest_of", .glo "rest_size", .glo "check_size", .glo "bounded", .glo "turned", .glo "turns_from", .glo "reachable", .glo "fewest_turns", .glo "_law_drawn", .glo "_law_view", .glo "_law_fewest", .glo "law"] : List He.Fa)
def d_is_int : He.DefD := ⟨("is_int", none), "is_int", "is_int", defArgs s_is_int, defBody s_is_int, defScope s_is_int, [], []⟩
def d_is_view : He.DefD := ⟨("is_view", none), "is_view", "is_view", defArgs s_is_view, defBody s_is_view, defScope s_is_view, [], []⟩
def d_check_view : He.DefD := ⟨("check_view", none), "check_view", "check_view", defArgs s_check_view, defBody s_check_view, defScope s_check_view, [], []⟩
def d_check_row : He.DefD := ⟨("check_row", none), "check_row", "check_row", defArgs s_check_row, defBody s_check_row, defScope s_check_row, [], []⟩
def d_rest_of : He.DefD := ⟨("rest_of", none), "rest_of", "rest_of", defArgs s_rest_of, defBody s_rest_of, defScope s_rest_of, [], []⟩
def d_rest_size : He.DefD := ⟨("rest_size", none), "rest_size", "rest_size", defArgs s_rest_size, defBody s_rest_size, defScope s_rest_size, [], []⟩
def d_check_size : He.DefD := ⟨("check_size", none), "check_size", "check_size", defArgs s_check_size, defBody s_check_size, defScope s_check_size, [], []⟩
def d_bounded : He.DefD := ⟨("bounded", none), "bounded", "bounded", defArgs s_bounded, defBody s_bounded, defScope s_bounded, [], []⟩
def d_turned : He.DefD := ⟨("turned", none), "turned", "turned", defArgs s_turned, defBody s_turned, defScope s_turned, [], []⟩
def d_turns_from : He.DefD := ⟨("turns_from", none), "turns_from", "turns_from", defArgs s_turns_from, defBody s_turns_from, defScope s_turns_from, [], []⟩
def d_reachable : He.DefD := ⟨("reachable", none), "reachable", "reachable", defArgs s_reachable, defBody s_reachable, defScope s_reachable, [], []⟩
def d_fewest_turns : He.DefD := ⟨("fewest_turns", none), "fewest_turns", "fewest_turns", defArgs s_fewest_turns, defBody s_fewest_turns, defScope s_fewest_turns, [], []⟩
def d__law_drawn : He.DefD := ⟨("_law_drawn", none), "_law_drawn", "_law_drawn", defArgs s__law_drawn, defBody s__law_drawn, defScope s__law_drawn, [], []⟩
def d__law_view : He.DefD := ⟨("_law_view", none), "_law_view", "_law_view", defArgs s__law_view, defBody s__law_view, defScope s__law_view, [], []⟩
def d__law_fewest : He.DefD := ⟨("_law_fewest", none), "_law_fewest", "_law_fewest", defArgs s__law_fewest, defBody s__law_fewest, defScope s__law_fewest, [], []⟩
def d_law : He.DefD := ⟨("law", none), "law", "law", defArgs s_law, defBody s_law, defScope s_law, [], []⟩
def fn : List He.DefD := ([d_is_int, d_is_view, d_check_view, d_check_row, d_rest_of, d_rest_size, d_check_size, d_bounded, d_turned, d_turns_from, d_reachable, d_fewest_turns, d__law_drawn, d__law_view, d__law_fewest, d_law] : List He.DefD)
def ex (K : Fr) : Bool := (He.tupB K "RULES" [.str "down", .str "near", .str "up"]) && (excs.all fun c => true)
abbrev R : PySem.W.OpenRow := PySem.W.OpenLaw.row PySem.Challenge.rw_scrolledlists_k23_whole_pages
abbrev hk : PySem.W.Hook := hookM 5 fa fn ex
def ob (s : PySem.W.SharedT) : AlM := obsMG 5 fa fn ex (HandSHeadRun.getT s)
theorem ob_eq (s : PySem.W.SharedT) : ob s = hk.obs s.abs := obsMG_eq (HandSHeadRun.getT_eq s)
def loose : List PySem.Str := (["ScrollError", "InvalidView", "InvalidRow", "InvalidNumber", "InvalidSize", "MAX_ROWS", "MAX_HEIGHT", "MAX_STEPS", "DOWN", "NEAR", "UP", "RULES", "is_int", "is_view", "check_view", "check_row", "rest_of", "rest_size", "MAX_TURNS", "check_size", "bounded", "turned", "turns_from", "reachable", "fewest_turns", "_law_drawn", "_law_view", "_law_fewest"] : List PySem.Str)
set_option maxHeartbeats 0 in
theorem run (w : World) : HandSHeadRun.RunEq R (PySem.W.view R.prog [32]) hk ob 20000 loose w := by
  intro os
  kernel_rfl
section
variable {P : Program} {w : World} {K : Fr} {h : Heap} {mg : Str → Option Value} {base : Heap}
theorem tx (X : K.In h) (G : h.Ns mainGlobals mg) (c : SaysM fa fn ex K) : Tx P w K mg base := by
  obtain ⟨ht, hc⟩ := He.ba c.e
  have hcl := List.all_eq_true.mp hc
  exact {
    bi := ⟨He.free_ok X G (c.d.fact 0 rfl), He.free_ok X G (c.d.fact 1 rfl), He.free_ok X G (c.d.fact 2 rfl), He.free_ok X G (c.d.fact 3 rfl), He.free_ok X G (c.d.fact 4 rfl), He.free_ok X G (c.d.fact 5 rfl), He.free_ok X G (c.d.fact 6 rfl), He.free_ok X G (c.d.fact 7 rfl), He.free_ok X G (c.d.fact 8 rfl), He.free_ok X G (c.d.fact 9 rfl), He.free_ok X G (c.d.fact 10 rfl), He.free_ok X G (c.d.fact 11 rfl), He.free_ok X G (c.d.fact 12 rfl), He.free_ok X G (c.d.fact 13 rfl), He.free_ok X G (c.d.fact 14 rfl), He.free_ok X G (c.d.fact 15 rfl), He.free_ok X G (c.d.fact 16 rfl), He.free_ok X G (c.d.fact 17 rfl)⟩
    i_MAX_ROWS := He.int_ok X G (c.d.fact 18 rfl)
    i_MAX_HEIGHT := He.int_ok X G (c.d.fact 19 rfl)
    i_MAX_STEPS := He.int_ok X G (c.d.fact 20 rfl)
    i_MAX_TURNS := He.int_ok X G (c.d.fact 21 rfl)
    s_DOWN := He.str_ok X G (c.d.fact 22 rfl)
    s_NEAR := He.str_ok X G (c.d.fact 23 rfl)
    s_UP := He.str_ok X G (c.d.fact 24 rfl)
    t_RULES := ⟨He.glo_ok X G (c.d.fact 25 rfl), fun H => He.tupB_ok ht H⟩
    x_ScrollError := ⟨He.glo_ok X G (c.d.fact 26 rfl), (He.exc_ok (c.d.fact 27 rfl)).1, (He.exc_ok (c.d.fact 27 rfl)).2.1, (He.exc_ok (c.d.fact 27 rfl)).2.2.1, (He.exc_ok (c.d.fact 27 rfl)).2.2.2⟩
    x_InvalidView := ⟨He.glo_ok X G (c.d.fact 28 rfl), (He.exc_ok (c.d.fact 29 rfl)).1, (He.exc_ok (c.d.fact 29 rfl)).2.1, (He.exc_ok (c.d.fact 29 rfl)).2.2.1, (He.exc_ok (c.d.fact 29 rfl)).2.2.2⟩
    x_InvalidRow := ⟨He.glo_ok X G (c.d.fact 30 rfl), (He.exc_ok (c.d.fact 31 rfl)).1, (He.exc_ok (c.d.fact 31 rfl)).2.1, (He.exc_ok (c.d.fact 31 rfl)).2.2.1, (He.exc_ok (c.d.fact 31 rfl)).2.2.2⟩
    x_InvalidNumber := ⟨He.glo_ok X G (c.d.fact 32 rfl), (He.exc_ok (c.d.fact 33 rfl)).1, (He.exc_ok (c.d.fact 33 rfl)).2.1, (He.exc_ok (c.d.fact 33 rfl)).2.2.1, (He.exc_ok (c.d.fact 33 rfl)).2.2.2⟩
    x_InvalidSize := ⟨He.glo_ok X G (c.d.fact 34 rfl), (He.exc_ok (c.d.fact 35 rfl)).1, (He.exc_ok (c.d.fact 35 rfl)).2.1, (He.exc_ok (c.d.fact 35 rfl)).2.2.1, (He.exc_ok (c.d.fact 35 rfl)).2.2.2⟩
    xc := trivial
  }
theorem facts (X : K.In h) (G : h.Ns mainGlobals mg) (c : SaysM fa fn ex K) : ∃ fd : FuncData, (∀ (s : Shared) (v : Value), BindsTo s fd ⟨[v], []⟩ [("_law_script", v)]) ∧ ∀ base : Heap, FnOk P w K mg base (L2.CX P w) 6 (He.ga K "law") fd ["_law_script"] (spOf K 1 F_law) := by
  obtain ⟨fd_is_int, D_is_int⟩ := c.d.def_ 0 (d := d_is_int) rfl
  obtain ⟨fd_is_view, D_is_view⟩ := c.d.def_ 1 (d := d_is_view) rfl
  obtain ⟨fd_check_view, D_check_view⟩ := c.d.def_ 2 (d := d_check_view) rfl
  obtain ⟨fd_check_row, D_check_row⟩ := c.d.def_ 3 (d := d_check_row) rfl
  obtain ⟨fd_rest_of, D_rest_of⟩ := c.d.def_ 4 (d := d_rest_of) rfl
  obtain ⟨fd_rest_size, D_rest_size⟩ := c.d.def_ 5 (d := d_rest_size) rfl
  obtain ⟨fd_check_size, D_check_size⟩ := c.d.def_ 6 (d := d_check_size) rfl
  obtain ⟨fd_bounded, D_bounded⟩ := c.d.def_ 7 (d := d_bounded) rfl
  obtain ⟨fd_turned, D_turned⟩ := c.d.def_ 8 (d := d_turned) rfl
  obtain ⟨fd_turns_from, D_turns_from⟩ := c.d.def_ 9 (d := d_turns_from) rfl
  obtain ⟨fd_reachable, D_reachable⟩ := c.d.def_ 10 (d := d_reachable) rfl
  obtain ⟨fd_fewest_turns, D_fewest_turns⟩ := c.d.def_ 11 (d := d_fewest_turns) rfl
  obtain ⟨fd__law_drawn, D__law_drawn⟩ := c.d.def_ 12 (d := d__law_drawn) rfl
  obtain ⟨fd__law_view, D__law_view⟩ := c.d.def_ 13 (d := d__law_view) rfl
  obtain ⟨fd__law_fewest, D__law_fewest⟩ := c.d.def_ 14 (d := d__law_fewest) rfl
  obtain ⟨fd_law, D_law⟩ := c.d.def_ 15 (d := d_law) rfl
  refine ⟨fd_law, fun s v => FunD.bindsA (ps := ["_law_script"]) D_law (fun _ _ _ _ _ _ us hl => match us, hl with | [_], _ => rfl) s [v] rfl, fun base => ?_⟩
  have T : Tx P w K mg base := tx X G c
  have o_is_int := ok_is_int (P := P) (w := w) (base := base) { T with } D_is_int
  have k_is_int := defK (n := 3) D_is_int (He.glo_ok X G (c.d.fact 36 rfl)) rfl o_is_int (fun _ _ _ _ _ _ us hl => match us, hl with | [_, _, _], _ => rfl)
  have o_is_view := ok_is_view (P := P) (w := w) (base := base) { T with d_is_int := k_is_int } D_is_view
  have k_is_view := defK (n := 1) D_is_view (He.glo_ok X G (c.d.fact 37 rfl)) rfl o_is_view (fun _ _ _ _ _ _ us hl => match us, hl with | [_], _ => rfl)
  have o_check_view := ok_check_view (P := P) (w := w) (base := base) { T with d_is_view := k_is_view } D_check_view
  have k_check_view := defK (n := 1) D_check_view (He.glo_ok X G (c.d.fact 38 rfl)) rfl o_check_view (fun _ _ _ _ _ _ us hl => match us, hl with | [_], _ => rfl)
  have o_check_row := ok_check_row (P := P) (w := w) (base := base) { T with d_is_int := k_is_int } D_check_row
  have k_check_row := defK (n := 2) D_check_row (He.glo_ok X G (c.d.fact 39 rfl)) rfl o_check_row (fun _ _ _ _ _ _ us hl => match us, hl with | [_, _], _ => rfl)
  have o_rest_of := ok_rest_of (P := P) (w := w) (base := base) { T with } D_rest_of
  have k_rest_of := defK (n := 1) D_rest_of (He.glo_ok X G (c.d.fact 40 rfl)) rfl o_rest_of (fun _ _ _ _ _ _ us hl => match us, hl with | [_], _ => rfl)
  have o_rest_size := ok_rest_size (P := P) (w := w) (base := base) { T with d_check_view := k_check_view, d_rest_of := k_rest_of } D_rest_size
  have k_rest_size := defK (n := 1) D_rest_size (He.glo_ok X G (c.d.fact 41 rfl)) rfl o_rest_size (fun _ _ _ _ _ _ us hl => match us, hl with | [_], _ => rfl)
  have o_check_size := ok_check_size (P := P) (w := w) (base := base) { T with d_is_int := k_is_int } D_check_size
  have k_check_size := defK (n := 2) D_check_size (He.glo_ok X G (c.d.fact 42 rfl)) rfl o_check_size (fun _ _ _ _ _ _ us hl => match us, hl with | [_, _], _ => rfl)
  have o_bounded := ok_bounded (P := P) (w := w) (base := base) { T with d_rest_of := k_rest_of } D_bounded
  have k_bounded := defK (n := 2) D_bounded (He.glo_ok X G (c.d.fact 43 rfl)) rfl o_bounded (fun _ _ _ _ _ _ us hl => match us, hl with | [_, _], _ => rfl)
  have o_turned := ok_turned (P := P) (w := w) (base := base) { T with d_is_int := k_is_int, d_check_view := k_check_view, d_check_row := k_check_row, d_rest_of := k_rest_of, d_check_size := k_check_size, d_bounded := k_bounded } D_turned
  have k_turned := defK (n := 4) D_turned (He.glo_ok X G (c.d.fact 44 rfl)) rfl o_turned (fun _ _ _ _ _ _ us hl => match us, hl with | [_, _, _, _], _ => rfl)
  have o_turns_from := ok_turns_from (P := P) (w := w) (base := base) { T with d_bounded := k_bounded } D_turns_from
  have k_turns_from := defK (n := 3) D_turns_from (He.glo_ok X G (c.d.fact 45 rfl)) rfl o_turns_from (fun _ _ _ _ _ _ us hl => match us, hl with | [_, _, _], _ => rfl)
  have o_reachable := ok_reachable (P := P) (w := w) (base := base) { T with d_check_view := k_check_view, d_check_size := k_check_size, d_turns_from := k_turns_from } D_reachable
  have k_reachable := defK (n := 2) D_reachable (He.glo_ok X G (c.d.fact 46 rfl)) rfl o_reachable (fun _ _ _ _ _ _ us hl => match us, hl with | [_, _], _ => rfl)
  have o_fewest_turns := ok_fewest_turns (P := P) (w := w) (base := base) { T with d_check_view := k_check_view, d_check_row := k_check_row, d_rest_of := k_rest_of, d_check_size := k_check_size, d_turns_from := k_turns_from } D_fewest_turns
  have k_fewest_turns := defK (n := 4) D_fewest_turns (He.glo_ok X G (c.d.fact 47 rfl)) rfl o_fewest_turns (fun _ _ _ _ _ _ us hl => match us, hl with | [_, _, _, _], _ => rfl)
  have o__law_drawn := ok__law_drawn (P := P) (w := w) (base := base) { T with } D__law_drawn
  have k__law_drawn := defK (n := 3) D__law_drawn (He.glo_ok X G (c.d.fact 48 rfl)) rfl o__law_drawn (fun _ _ _ _ _ _ us hl => match us, hl with | [_, _, _], _ => rfl)
  have o__law_view := ok__law_view (P := P) (w := w) (base := base) { T with d__law_drawn := k__law_drawn } D__law_view
  have k__law_view := defK (n := 2) D__law_view (He.glo_ok X G (c.d.fact 49 rfl)) rfl o__law_view (fun _ _ _ _ _ _ us hl => match us, hl with | [_, _], _ => rfl)
  have o__law_fewest := ok__law_fewest (P := P) (w := w) (base := base) { T with d_rest_size := k_rest_size, d_fewest_turns := k_fewest_turns } D__law_fewest
  have k__law_fewest := defK (n := 4) D__law_fewest (He.glo_ok X G (c.d.fact 50 rfl)) rfl o__law_fewest (fun _ _ _ _ _ _ us hl => match us, hl with | [_, _, _, _], _ => rfl)
  have o_law := ok_law (P := P) (w := w) (base := base) { T with d_rest_size := k_rest_size, d_turned := k_turned, d_reachable := k_reachable, d_fewest_turns := k_fewest_turns, d__law_drawn := k__law_drawn, d__law_view := k__law_view, d__law_fewest := k__law_fewest } D_law
  exact o_law
end
end Law
open PySem PySem.W PySem.Calls PyProof.Rows
set_option maxRecDepth 100000 in
set_option maxHeartbeats 8000000 in
theorem PySem.Challenge.cw_scrolledlists_k23_whole_pages_holds : PySem.Challenge.rw_scrolledlists_k23_whole_pages.Holds := by
  w_on; o_law
  refine HandSHeadRun.head_any (r := OpenLaw.row PySem.Challenge.rw_scrolledlists_k23_whole_pages) (q := view (OpenLaw.row PySem.Challenge.rw_scrolledlists_k23_whole_pages).prog [32]) (H := Law.hk) (ob := Law.ob) (M := 20000) (loose := Law.loose) (d := HandSHeadRun.topDef (OpenLaw.row PySem.Challenge.rw_scrolledlists_k23_whole_pages).prog 32) (kwd := []) Law.ob_eq
    (by kernel_rfl) (fun s => by kernel_rfl) Law.run (by kernel_rfl) (by kernel_rfl) (by kernel_rfl) (by rfl) (by first | assumption | decide +kernel) (by decide +kernel) ⟨rfl, rfl, rfl, rfl, rfl, by decide +kernel⟩ ?hw ?hc
  case hw => w_witness2
  case hc =>
    refine Pg.walk_end (l := PySem.Challenge.rw_scrolledlists_k23_whole_pages) (n := 63) (k := 6) (x := "_law_script") rfl (by decide) (by kernel_rfl) ⟨rfl, by decide, by decide⟩ ?F
    intro w mg fa h Y G hmg0
    obtain ⟨K, KX, c⟩ := Y
    have e : (HandSHeadRun.topDef (OpenLaw.row PySem.Challenge.rw_scrolledlists_k23_whole_pages).prog 32).name = ("law" : PySem.Str) := by kernel_rfl
    rw [e, He.glo_ok KX G (c.d.fact 51 (f := .glo "law") rfl)] at hmg0
    cases hmg0
    obtain ⟨fd, hb, hF⟩ := Law.facts (P := (PySem.Challenge.rw_scrolledlists_k23_whole_pages).prog) (w := w) KX G c
    exact ⟨K, fd, Pg.spOf K 1 Law.F_law, KX, hb, Pg.law_end Law.law_true, hF⟩
#print axioms PySem.Challenge.cw_scrolledlists_k23_whole_pages_holds
