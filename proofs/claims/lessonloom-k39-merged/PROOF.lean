import PyProof.Rows.All
import Wide.All
import OpenK.AllK
import Wide.FinOn
import HandS.ForMost
import HandS.Exc
import HandS.ExcOwn
import HandS.HeadHook2
import HandS.Lambda
import HandS.TupAny
import HandS.Deep
import HandS.Flow
import HandS.IsInst
import HandS.Sort
import PyProof.ListRange
import HandS.Style
import HandS.DictComp
import KE.GoesNew
import HandS.CallSlots
import HandS.ExcInit
import HandS.ExcIs
import HandS.Words
import HandS.HeadHook4
import HandS.Strs
import HandS.SetFor
import HandS.SetTxt0
import KE.KStateDown
import HandS.Head0
import HandS.Head1
import HandS.Head2
import HandS.HeadEnd
import HandS.HeadHook1
import HandS.HeadHook3
import HandS.HeadWalk
import PySem.Challenge.RW_lessonloom_k39_whole_three_timetables_me
set_option Elab.async false
set_option linter.all false
set_option maxRecDepth 100000
set_option maxHeartbeats 4000000
/-! P0: the plain machine over plain data (values, objects, states, outcomes) and how it stands to HandS's heap. -/
namespace Py
open PySem PySem.Spec PyProof.Rows L2

/-- plain values: an object of one's own by its number -/
inductive IV where
  | non | bl (b : Bool) | int (i : Int) | str (s : Str) | tup (vs : List IV) | ref (n : Nat) | hnd (a : Addr)
/-- plain objects -/
inductive IO where
  | lst (vs : List IV) | dct (kvs : List (Key × IV)) | ins (c : Str) (fs : List (Str × IV))
/-- what an expression gives: a value; a new list that nobody else knows; a list of a caller's that is only read; a list that never changes -/
inductive RV where
  | v (x : IV) | l (vs : List IV) | f (vs : List IV) | z (vs : List IV)
structure S where
  env : List (Option RV)
  hp : List IO
inductive Rs (α : Type) where
  | ok (a : α) (s : S) | exn (c : Str) (fs : List (Str × IV)) (s : S) | bad
def Rs.bind {α β : Type} (r : Rs α) (f : α → S → Rs β) : Rs β := match r with
  | .ok a s => f a s
  | .exn c fs s => .exn c fs s
  | .bad => .bad
abbrev M (α : Type) := S → Rs α

def litV : IV → Option V
  | .non => some .non
  | .bl b => some (.bl b)
  | .int i => some (.int i)
  | .str s => some (.str s)
  | .hnd a => some (.ref a)
  | _ => none

/-! ### values -/
inductive RvL (K : PySem.W.Frag) (φ : List Addr) (H : Hp) : List IV → List V → Prop where
  | nil : RvL K φ H [] []
  | lit {x : IV} {v : V} {vs : List IV} {xs : List V} (e : litV x = some v) (t : RvL K φ H vs xs) : RvL K φ H (x :: vs) (v :: xs)
  | tup {us : List IV} {ys : List V} {vs : List IV} {xs : List V} {p : Addr} (h : SqT K H p ys) (r : RvL K φ H us ys) (t : RvL K φ H vs xs) : RvL K φ H (.tup us :: vs) (.ref p :: xs)
  | ref {n : Nat} {p : Addr} {vs : List IV} {xs : List V} (h : φ[n]? = some p) (t : RvL K φ H vs xs) : RvL K φ H (.ref n :: vs) (.ref p :: xs)
abbrev Rv (K : PySem.W.Frag) (φ : List Addr) (H : Hp) (x : IV) (v : V) : Prop := RvL K φ H [x] [v]
section
variable {K : PySem.W.Frag} {φ φ' : List Addr} {H H' : Hp} {x y : IV} {v u : V} {vs us : List IV} {xs ys : List V}
theorem RvL.head (h : RvL K φ H (x :: vs) (v :: xs)) : Rv K φ H x v := by
  cases h with
  | lit e t => exact .lit e .nil
  | tup h r t => exact .tup h r .nil
  | ref h t => exact .ref h .nil
theorem RvL.tail (h : RvL K φ H (x :: vs) (v :: xs)) : RvL K φ H vs xs := by
  cases h with
  | lit e t => exact t
  | tup h r t => exact t
  | ref h t => exact t
theorem RvL.cons (h : Rv K φ H x v) (t : RvL K φ H vs xs) : RvL K φ H (x :: vs) (v :: xs) := by
  cases h with
  | lit e _ => exact .lit e t
  | tup h r _ => exact .tup h r t
  | ref h _ => exact .ref h t
theorem RvL.inv_cons (h : RvL K φ H (x :: vs) xs) : ∃ v ys, xs = v :: ys ∧ Rv K φ H x v ∧ RvL K φ H vs ys := by
  cases xs with
  | nil => cases h
  | cons v ys => exact ⟨v, ys, rfl, h.head, h.tail⟩
theorem RvL.inv_nil (h : RvL K φ H [] xs) : xs = [] := by
  cases h
  rfl
theorem RvL.length (h : RvL K φ H vs xs) : vs.length = xs.length := by
  induction h with
  | nil => rfl
  | lit e t ih => simp [ih]
  | tup h r t _ ih => simp [ih]
  | ref h t ih => simp [ih]
theorem RvL.get (h : RvL K φ H vs xs) {i : Nat} (e : vs[i]? = some x) : ∃ v, xs[i]? = some v ∧ Rv K φ H x v := by
  induction vs generalizing xs i with
  | nil => simp at e
  | cons y vs ih =>
    obtain ⟨v, ys, rfl, h1, h2⟩ := h.inv_cons
    cases i with
    | zero =>
      simp at e
      subst e
      exact ⟨v, rfl, h1⟩
    | succ i =>
      obtain ⟨u, a, b⟩ := ih h2 (by simpa using e)
      exact ⟨u, by simpa using a, b⟩
theorem RvL.get2 (h : RvL K φ H vs xs) {i : Nat} (e : xs[i]? = some v) : ∃ x, vs[i]? = some x ∧ Rv K φ H x v := by
  cases q : vs[i]? with
  | none =>
    have l := h.length
    have h1 : vs.length ≤ i := List.getElem?_eq_none_iff.mp q
    have h2 : xs[i]? = none := List.getElem?_eq_none_iff.mpr (by omega)
    rw [h2] at e
    cases e
  | some x =>
    obtain ⟨u, a, b⟩ := h.get q
    rw [e] at a
    cases a
    exact ⟨x, rfl, b⟩
theorem RvL.append (h : RvL K φ H vs xs) (h' : RvL K φ H us ys) : RvL K φ H (vs ++ us) (xs ++ ys) := by
  induction vs generalizing xs with
  | nil =>
    cases h
    exact h'
  | cons y vs ih =>
    obtain ⟨v, zs, rfl, h1, h2⟩ := h.inv_cons
    exact .cons h1 (ih h2)
theorem RvL.take (h : RvL K φ H vs xs) (n : Nat) : RvL K φ H (vs.take n) (xs.take n) := by
  induction vs generalizing xs n with
  | nil =>
    cases h
    simp
    exact .nil
  | cons y vs ih =>
    obtain ⟨v, zs, rfl, h1, h2⟩ := h.inv_cons
    cases n with
    | zero => exact .nil
    | succ n => exact .cons h1 (ih h2 n)
theorem RvL.drop (h : RvL K φ H vs xs) (n : Nat) : RvL K φ H (vs.drop n) (xs.drop n) := by
  induction vs generalizing xs n with
  | nil =>
    cases h
    simp
    exact .nil
  | cons y vs ih =>
    obtain ⟨v, zs, rfl, h1, h2⟩ := h.inv_cons
    cases n with
    | zero => exact .cons h1 h2
    | succ n => exact ih h2 n
theorem RvL.set (h : RvL K φ H vs xs) (r : Rv K φ H x v) (n : Nat) : RvL K φ H (vs.set n x) (xs.set n v) := by
  induction vs generalizing xs n with
  | nil =>
    cases h
    exact .nil
  | cons y vs ih =>
    obtain ⟨u, zs, rfl, h1, h2⟩ := h.inv_cons
    cases n with
    | zero => exact .cons r h2
    | succ n => exact .cons h1 (ih h2 n)
theorem Rv.non_inv (h : Rv K φ H .non v) : v = .non := by
  cases h with
  | lit e _ => exact (Option.some.inj e).symm
theorem Rv.bl_inv {b : Bool} (h : Rv K φ H (.bl b) v) : v = .bl b := by
  cases h with
  | lit e _ => exact (Option.some.inj e).symm
theorem Rv.int_inv {i : Int} (h : Rv K φ H (.int i) v) : v = .int i := by
  cases h with
  | lit e _ => exact (Option.some.inj e).symm
theorem Rv.str_inv {z : Str} (h : Rv K φ H (.str z) v) : v = .str z := by
  cases h with
  | lit e _ => exact (Option.some.inj e).symm
theorem Rv.tup_inv (h : Rv K φ H (.tup us) v) : ∃ p ys, v = .ref p ∧ SqT K H p ys ∧ RvL K φ H us ys := by
  cases h with
  | lit e _ => cases e
  | tup h r t => exact ⟨_, _, rfl, h, r⟩
theorem Rv.ref_inv {n : Nat} (h : Rv K φ H (.ref n) v) : ∃ p, v = .ref p ∧ φ[n]? = some p := by
  cases h with
  | lit e _ => cases e
  | ref h t => exact ⟨_, rfl, h⟩
theorem Rv.hnd_inv {a : Addr} (h : Rv K φ H (.hnd a) v) : v = .ref a := by
  cases h with
  | lit e _ => exact (Option.some.inj e).symm
theorem Rv.hnd {a : Addr} : Rv K φ H (.hnd a) (.ref a) := .lit rfl .nil
theorem Rv.int {i : Int} : Rv K φ H (.int i) (.int i) := .lit rfl .nil
theorem Rv.bl {b : Bool} : Rv K φ H (.bl b) (.bl b) := .lit rfl .nil
theorem Rv.str {z : Str} : Rv K φ H (.str z) (.str z) := .lit rfl .nil
theorem Rv.non : Rv K φ H .non .non := .lit rfl .nil
end

/-! ### how a heap goes on -/
def isImm : HO → Bool
  | .tup _ => true
  | .frz _ _ => true
  | _ => false
/-- free, or a table (tables are never told of) -/
def Fr (H : Hp) (a : Addr) : Prop := ∀ o, H a = some o → ∃ ps, o = .tbl ps
theorem Fr.of {H : Hp} {a : Addr} (h : H a = none) : Fr H a := fun o e => by
  rw [h] at e
  cases e
theorem Fr.no {H : Hp} {a : Addr} {o : HO} (z : Fr H a) (e : H a = some o) (n : ∀ ps, o ≠ .tbl ps) : False := by
  obtain ⟨ps, q⟩ := z o e
  exact n ps q
theorem Fr.lst {H : Hp} {a : Addr} {xs : List V} (z : Fr H a) (e : H a = some (.lst xs)) : False := z.no e fun _ q => nomatch q
theorem Fr.dK {H : Hp} {a : Addr} {xs : List (Key × V)} (z : Fr H a) (e : H a = some (.dK xs)) : False := z.no e fun _ q => nomatch q
theorem Fr.upd {H : Hp} {p a : Addr} {o : HO} (z : Fr (L2.upd H p o) a) (h : a ≠ p) : Fr H a := fun o e => z o (by rw [upd_ne h]; exact e)
/-- from H to H': what is not in Mi stands; new in Mi' is only what was in Mi or was not there -/
structure Ext (Mi : Addr → Prop) (H : Hp) (Mi' : Addr → Prop) (H' : Hp) : Prop where
  new : ∀ a, Mi' a → Mi a ∨ Fr H a
  keep : ∀ a o, H a = some o → ¬ Mi a → (∀ ps, o ≠ .tbl ps) → H' a = some o
  dom : ∀ a, Fr H' a → Fr H a
  imm : ∀ a o, H a = some o → isImm o = true → H' a = some o
section
variable {A B C D : Addr → Prop} {H H1 H2 : Hp}
theorem Ext.refl : Ext A H A H := ⟨fun _ h => .inl h, fun _ _ h _ _ => h, fun _ h => h, fun _ _ h _ => h⟩
theorem Ext.trans (x : Ext A H B H1) (y : Ext B H1 C H2) : Ext A H C H2 where
  new := fun a h => by
    rcases y.new a h with h | h
    · exact x.new a h
    · exact .inr (x.dom a h)
  keep := fun a o h n t => by
    refine y.keep a o (x.keep a o h n t) (fun m => ?_) t
    rcases x.new a m with z | z
    · exact n z
    · exact z.no h t
  dom := fun a h => x.dom a (y.dom a h)
  imm := fun a o h i => y.imm a o (x.imm a o h i) i
theorem Ext.weak (x : Ext A H B H1) (h : ∀ a, A a → C a) (h' : ∀ a, D a → B a ∨ C a) : Ext C H D H1 where
  new := fun a d => by
    rcases h' a d with z | z
    · exact (x.new a z).imp (h a) id
    · exact .inl z
  keep := fun a o e n t => x.keep a o e (fun z => n (h a z)) t
  dom := x.dom
  imm := x.imm
theorem Ext.less (x : Ext A H B H1) (h' : ∀ a, D a → B a) : Ext A H D H1 := x.weak (fun _ z => z) fun a d => .inl (h' a d)
/-- a new object -/
theorem Ext.alloc {p : Addr} {o : HO} (h : H p = none) : Ext A H (fun a => A a ∨ a = p) (upd H p o) where
  new := fun a z => z.imp id fun e => by rw [e]; exact Fr.of h
  keep := fun a u e _ _ => by rw [upd_ne (ne_of_none e h)]; exact e
  dom := fun a e => by
    by_cases q : a = p
    · rw [q]; exact Fr.of h
    · exact e.upd q
  imm := fun a u e _ => by rw [upd_ne (ne_of_none e h)]; exact e
/-- an object of one's own is written -/
theorem Ext.write {p : Addr} {o o' : HO} (m : A p) (h : H p = some o) (i : isImm o = false) (nt : ∀ ps, o' ≠ .tbl ps := by exact fun _ z => nomatch z) : Ext A H A (upd H p o') where
  new := fun _ z => .inl z
  keep := fun a u e n _ => by
    have q : a ≠ p := fun z => n (by rw [z]; exact m)
    rw [upd_ne q]; exact e
  dom := fun a e => by
    by_cases q : a = p
    · rw [q] at e
      exact (e.no upd_same nt).elim
    · exact e.upd q
  imm := fun a u e j => by
    have q : a ≠ p := fun z => by
      rw [z, h] at e
      cases e
      rw [i] at j
      cases j
    rw [upd_ne q]; exact e
end
theorem SqT.ext {K : PySem.W.Frag} {A B : Addr → Prop} {H H' : Hp} (x : Ext A H B H') {a : Addr} {xs : List V} (h : SqT K H a xs) : SqT K H' a xs := by
  rcases h with (h | ⟨o, h⟩) | h
  · exact .inl (.inl (x.imm a _ h rfl))
  · exact .inl (.inr ⟨o, x.imm a _ h rfl⟩)
  · exact .inr h
theorem pre_get {φ φ' : List Addr} (h : φ <+: φ') {n : Nat} {p : Addr} (e : φ[n]? = some p) : φ'[n]? = some p := by
  obtain ⟨t, rfl⟩ := h
  rw [List.getElem?_append_left (List.getElem?_eq_some_iff.mp e).1]
  exact e
theorem RvL.ext {K : PySem.W.Frag} {A B : Addr → Prop} {φ φ' : List Addr} {H H' : Hp} {vs : List IV} {xs : List V} (h : RvL K φ H vs xs) (pr : φ <+: φ') (x : Ext A H B H') : RvL K φ' H' vs xs := by
  induction h with
  | nil => exact .nil
  | lit e t ih => exact .lit e ih
  | tup h r t ih1 ih2 => exact .tup (SqT.ext x h) ih1 ih2
  | ref h t ih => exact .ref (pre_get pr h) ih

/-! ### objects, slots, the state -/
/-- the class of a name -/
abbrev cA (K : PySem.W.Frag) (c : Str) : Addr := He.ga K c
inductive Ro (K : PySem.W.Frag) (φ : List Addr) (H : Hp) (a : Addr) : IO → Prop where
  | lst {vs : List IV} {xs : List V} (h : H a = some (.lst xs)) (r : RvL K φ H vs xs) : Ro K φ H a (.lst vs)
  | dct {kvs : List (Key × IV)} {ys : List (Key × V)} (h : H a = some (.dK ys)) (k : kvs.map (·.1) = ys.map (·.1)) (r : RvL K φ H (kvs.map (·.2)) (ys.map (·.2))) : Ro K φ H a (.dct kvs)
  | ins {c : Str} {fs : List (Str × IV)} {dx : Addr} {ys : List (Str × V)} (h : H a = some (.ins (cA K c) dx ys)) (k : fs.map (·.1) = ys.map (·.1)) (r : RvL K φ H (fs.map (·.2)) (ys.map (·.2))) : Ro K φ H a (.ins c fs)
theorem Ro.there {K : PySem.W.Frag} {φ : List Addr} {H : Hp} {a : Addr} {o : IO} (r : Ro K φ H a o) : ∃ u, H a = some u ∧ isImm u = false ∧ ∀ ps, u ≠ .tbl ps := by
  cases r with
  | lst h r => exact ⟨_, h, rfl, fun _ q => nomatch q⟩
  | dct h k r => exact ⟨_, h, rfl, fun _ q => nomatch q⟩
  | ins h k r => exact ⟨_, h, rfl, fun _ q => nomatch q⟩
/-- stays: its own object and what its parts lean on -/
theorem Ro.ext {K : PySem.W.Frag} {A B : Addr → Prop} {φ φ' : List Addr} {H H' : Hp} {a : Addr} {o : IO} (r : Ro K φ H a o) (pr : φ <+: φ') (x : Ext A H B H') (k : ∀ u, H a = some u → H' a = some u) : Ro K φ' H' a o := by
  cases r with
  | lst h r => exact .lst (k _ h) (r.ext pr x)
  | dct h e r => exact .dct (k _ h) e (r.ext pr x)
  | ins h e r => exact .ins (k _ h) e (r.ext pr x)
/-- slot i holds the address p of a list that only this frame knows -/
def Own (env : List (Option RV)) (σ : L2.St) (i : Nat) (p : Addr) : Prop := ∃ vs, env[i]? = some (some (.l vs)) ∧ σ[i]? = some (some (.ref p))
def Mi (φ : List Addr) (env : List (Option RV)) (σ : L2.St) (a : Addr) : Prop := a ∈ φ ∨ ∃ i, Own env σ i a
/-- a list of the written part -/
def SqK (K : PySem.W.Frag) (a : Addr) (xs : List V) : Prop := ∃ (o : Obj) (its : Array Value) (n : Nat), K.lookup a = some o ∧ o.cls = .type "list" ∧ o.dict = none ∧ o.data = .seq its n ∧ its.size ≤ sizeLine ∧ Vals xs its.toList
/-- a list that never changes -/
def Fz (K : PySem.W.Frag) (H : Hp) (a : Addr) (xs : List V) : Prop := SqK K a xs ∨ ∃ o, H a = some (.frz o (.lst xs))
theorem Fz.seq {K : PySem.W.Frag} {H : Hp} {a : Addr} {xs : List V} (h : Fz K H a xs) : SqL K H a xs := h.elim .inr fun ⟨o, e⟩ => .inl (.inr ⟨o, e⟩)
theorem Fz.ext {K : PySem.W.Frag} {A B : Addr → Prop} {H H' : Hp} {a : Addr} {xs : List V} (x : Ext A H B H') (h : Fz K H a xs) : Fz K H' a xs := h.imp id fun ⟨o, e⟩ => ⟨o, x.imm a _ e rfl⟩
/-- what stays the same through a def's body: the tables of code objects; the lists that the caller lent -/
structure Tp where
  tabs : List (Addr × Str)
  bor : List Addr
def Sl (K : PySem.W.Frag) (T : Tp) (φ : List Addr) (env : List (Option RV)) (σ : L2.St) (H : Hp) (i : Nat) : Option RV → Prop
  | none => True
  | some (.v x) => ∃ v, σ[i]? = some (some v) ∧ Rv K φ H x v
  | some (.l vs) => ∃ p xs, σ[i]? = some (some (.ref p)) ∧ H p = some (.lst xs) ∧ p ∉ φ ∧ RvL K φ H vs xs
  | some (.f vs) => ∃ p xs, σ[i]? = some (some (.ref p)) ∧ H p = some (.lst xs) ∧ p ∈ T.bor ∧ RvL K φ H vs xs
  | some (.z vs) => ∃ p xs, σ[i]? = some (some (.ref p)) ∧ Fz K H p xs ∧ RvL K φ H vs xs
structure Rel (K : PySem.W.Frag) (T : Tp) (φ : List Addr) (σ : L2.St) (H : Hp) (s : S) : Prop where
  nd : φ.Nodup
  len : φ.length = s.hp.length
  obj : ∀ (n : Nat) (a : Addr) (o : IO), φ[n]? = some a → s.hp[n]? = some o → Ro K φ H a o
  slot : ∀ (i : Nat) (r : Option RV), s.env[i]? = some r → Sl K T φ s.env σ H i r
  inj : ∀ i j p, Own s.env σ i p → Own s.env σ j p → i = j
  tab : LamX.Tabs T.tabs H
  bor : ∀ b ∈ T.bor, ¬ Fr H b ∧ ¬ Mi φ s.env σ b
  elen : s.env.length = σ.length
/-- a result -/
def Rr (K : PySem.W.Frag) (T : Tp) (φ : List Addr) (env : List (Option RV)) (σ : L2.St) (H : Hp) : RV → V → Prop
  | .v x, v => Rv K φ H x v
  | .l vs, v => ∃ p xs, v = .ref p ∧ H p = some (.lst xs) ∧ ¬ Mi φ env σ p ∧ p ∉ T.bor ∧ RvL K φ H vs xs
  | .f vs, v => ∃ p xs, v = .ref p ∧ H p = some (.lst xs) ∧ (p ∉ φ ∧ ((∃ i, Own env σ i p) ∨ p ∈ T.bor)) ∧ RvL K φ H vs xs
  | .z vs, v => ∃ p xs, v = .ref p ∧ Fz K H p xs ∧ RvL K φ H vs xs
/-- the address of a new list -/
def Tm : RV → V → Addr → Prop
  | .l _, .ref p, a => a = p
  | _, _, _ => False
section
variable {K : PySem.W.Frag} {T : Tp} {φ φ' : List Addr} {σ : L2.St} {H H' : Hp} {s s' : S}
theorem Rel.there (r : Rel K T φ σ H s) {a : Addr} (h : Mi φ s.env σ a) : ∃ u, H a = some u ∧ isImm u = false ∧ ∀ ps, u ≠ .tbl ps := by
  rcases h with h | ⟨i, vs, h1, h2⟩
  · obtain ⟨n, hn⟩ := List.getElem?_of_mem h
    have hl : n < s.hp.length := by rw [← r.len]; exact (List.getElem?_eq_some_iff.mp hn).1
    exact (r.obj n a _ hn (List.getElem?_eq_getElem hl)).there
  · obtain ⟨p, xs, e1, e2, _, _⟩ := r.slot i _ h1
    rw [h2] at e1
    cases e1
    exact ⟨_, e2, rfl, fun _ q => nomatch q⟩
/-- a further heap in which all of ours stands as it stood -/
theorem Rel.stay {A B : Addr → Prop} (r : Rel K T φ σ H s) (x : Ext A H B H') (k : ∀ a u, Mi φ s.env σ a → H a = some u → H' a = some u) (kb : ∀ a u, a ∈ T.bor → H a = some u → H' a = some u) (t : LamX.Tabs T.tabs H') : Rel K T φ σ H' s where
  nd := r.nd
  len := r.len
  obj := fun n a o h1 h2 => (r.obj n a o h1 h2).ext (List.prefix_refl _) x fun u e => k a u (.inl (List.mem_of_getElem? h1)) e
  slot := fun i q e => by
    have h := r.slot i q e
    cases q with
    | none => trivial
    | some q =>
      cases q with
      | v y =>
        obtain ⟨v, e1, e2⟩ := h
        exact ⟨v, e1, e2.ext (List.prefix_refl _) x⟩
      | l vs =>
        obtain ⟨p, xs, e1, e2, e3, e4⟩ := h
        exact ⟨p, xs, e1, k p _ (.inr ⟨i, vs, e, e1⟩) e2, e3, e4.ext (List.prefix_refl _) x⟩
      | f vs =>
        obtain ⟨p, xs, e1, e2, e3, e4⟩ := h
        exact ⟨p, xs, e1, kb p _ e3 e2, e3, e4.ext (List.prefix_refl _) x⟩
      | z vs =>
        obtain ⟨p, xs, e1, e2, e4⟩ := h
        exact ⟨p, xs, e1, e2.ext x, e4.ext (List.prefix_refl _) x⟩
  inj := r.inj
  tab := t
  bor := fun b hb => by
    obtain ⟨h1, h2⟩ := r.bor b hb
    exact ⟨fun z => h1 (x.dom b z), h2⟩
  elen := r.elen
theorem upd_keeps {p : Addr} {o : HO} (h : H p = none) : ∀ a u, H a = some u → upd H p o a = some u := fun a u e => by
  rw [upd_ne (ne_of_none e h)]; exact e
/-- something new beside -/
theorem Rel.alloc {p : Addr} {o : HO} (r : Rel K T φ σ H s) (h : H p = none) : Rel K T φ σ (upd H p o) s :=
  r.stay (Ext.alloc (A := Mi φ s.env σ) (o := o) h) (fun a u _ e => upd_keeps h a u e) (fun a u _ e => upd_keeps h a u e) (r.tab.ext (upd_keeps h))
theorem Rr.ext {A : Addr → Prop} {env env' : List (Option RV)} {σ' : L2.St} {rv : RV} {v : V} (h : Rr K T φ env σ H rv v) (nf : ∀ vs, rv ≠ .f vs) (pr : φ <+: φ') (x : Ext (Mi φ env σ) H (fun a => Mi φ' env' σ' a ∨ A a) H') : Rr K T φ' env' σ' H' rv v := by
  cases rv with
  | v y => exact RvL.ext (show Rv K φ H y v from h) pr x
  | l vs =>
    obtain ⟨p, xs, rfl, e1, e2, eb, e3⟩ := h
    refine ⟨p, xs, rfl, x.keep p _ e1 e2 (fun _ q => nomatch q), fun m => ?_, eb, e3.ext pr x⟩
    rcases x.new p (.inl m) with z | z
    · exact e2 z
    · exact (z.lst e1).elim
  | f vs => exact absurd rfl (nf vs)
  | z vs =>
    obtain ⟨p, xs, rfl, e1, e3⟩ := h
    exact ⟨p, xs, rfl, e1.ext x, e3.ext pr x⟩
end

/-! ### what is wanted behind -/
/-- an exception's own fields: none, or a dict of its own -/
def Xf (K : PySem.W.Frag) (φ : List Addr) (H : Hp) (fs : List (Str × IV)) (d : Option Addr) : Prop :=
  match d with
  | none => fs = []
  | some p => fs ≠ [] ∧ ∃ ys, H p = some (.xd ys) ∧ fs.map (·.1) = ys.map (·.1) ∧ RvL K φ H (fs.map (·.2)) (ys.map (·.2))
section
variable (K : PySem.W.Frag) (T : Tp) (W : WX)
/-- behind r, run where φ, σ, H stand, Mi one's own: Q of a result's machine value; W of an exception -/
def Post {α β : Type} (R : List Addr → List (Option RV) → L2.St → Hp → α → β → Prop) (Tmp : α → β → Addr → Prop) (A : Addr → Prop) (φ : List Addr) (σ : L2.St) (H : Hp) (r : Rs α) (Q : β → Hp → Prop) : Prop :=
  match r with
  | .ok a s' => ∀ φ' H' b, φ <+: φ' → Ext A H (fun p => Mi φ' s'.env σ p ∨ Tmp a b p) H' → Rel K T φ' σ H' s' → R φ' s'.env σ H' a b → Q b H'
  | .exn c fs s' => ∀ φ' H' d, φ <+: φ' → Ext A H (Mi φ' s'.env σ) H' → Rel K T φ' σ H' s' → Xf K φ' H' fs d → W (.ref (cA K c)) d σ H'
  | .bad => False
/-- the reading of an expression that the plain machine runs as m -/
def tE (m : M RV) : TE := fun σ H Q => ∃ φ s, Rel K T φ σ H s ∧ Post K T W (Rr K T) Tm (Mi φ s.env σ) φ σ H (m s) Q
def RB (φ : List Addr) (env : List (Option RV)) (σ : L2.St) (H : Hp) (a b : Bool) : Prop := a = b
def tT (m : M Bool) : TT := fun σ H Q => ∃ φ s, Rel K T φ σ H s ∧ Post K T W RB (fun _ _ _ => False) (Mi φ s.env σ) φ σ H (m s) Q
end
section
variable {K : PySem.W.Frag} {T : Tp} {W : WX} {φ : List Addr} {σ : L2.St} {H : Hp} {s : S}
theorem Post.bind {α β α2 β2 : Type} {R1 : List Addr → List (Option RV) → L2.St → Hp → α → β → Prop} {Tm1 : α → β → Addr → Prop} {R2 : List Addr → List (Option RV) → L2.St → Hp → α2 → β2 → Prop} {Tm2 : α2 → β2 → Addr → Prop} {A0 A : Addr → Prop}
    {r : Rs α} {f : α → S → Rs α2} {Q : β2 → Hp → Prop} (h : Post K T W R2 Tm2 A φ σ H (r.bind f) Q) (hA : ∀ p, A0 p → A p) :
    Post K T W R1 Tm1 A0 φ σ H r (fun b H1 => ∃ φ1 s1 a, r = .ok a s1 ∧ φ <+: φ1 ∧ Ext A0 H (fun p => Mi φ1 s1.env σ p ∨ Tm1 a b p) H1 ∧ Rel K T φ1 σ H1 s1 ∧ R1 φ1 s1.env σ H1 a b ∧
      Post K T W R2 Tm2 (fun p => A p ∨ (Mi φ1 s1.env σ p ∨ Tm1 a b p)) φ1 σ H1 (f a s1) Q) := by
  cases r with
  | bad => exact h
  | exn c fs s' => exact fun φ' H' d pr x rel xf => h φ' H' d pr (x.weak hA fun a z => .inl z) rel xf
  | ok a s1 =>
    intro φ1 H1 b pr x rel rr
    refine ⟨φ1, s1, a, rfl, pr, x, rel, rr, ?_⟩
    have h' : Post K T W R2 Tm2 A φ σ H (f a s1) Q := h
    have x2 : Ext A H (fun p => A p ∨ (Mi φ1 s1.env σ p ∨ Tm1 a b p)) H1 := x.weak hA fun p z => z.symm
    cases q : f a s1 with
    | bad =>
      rw [q] at h'
      exact h'
    | exn c fs s' =>
      rw [q] at h'
      exact fun φ' H' d pr' x' rel' xf => h' φ' H' d (pr.trans pr') (x2.trans x') rel' xf
    | ok a2 s2 =>
      rw [q] at h'
      exact fun φ' H' b' pr' x' rel' rr' => h' φ' H' b' (pr.trans pr') (x2.trans x') rel' rr'
theorem Post.mono {α β : Type} {R : List Addr → List (Option RV) → L2.St → Hp → α → β → Prop} {Tm1 : α → β → Addr → Prop} {A : Addr → Prop} {r : Rs α} {Q Q' : β → Hp → Prop} (h : Post K T W R Tm1 A φ σ H r Q) (hq : ∀ b H', Q b H' → Q' b H') : Post K T W R Tm1 A φ σ H r Q' := by
  cases r with
  | bad => exact h
  | exn c fs s' => exact h
  | ok a s1 => exact fun φ' H' b pr x rel rr => hq _ _ (h φ' H' b pr x rel rr)
/-- nothing changed -/
theorem Post.ret {A : Addr → Prop} {rv : RV} {v : V} {Q : VK} (h : Post K T W (Rr K T) Tm A φ σ H (.ok rv s) Q) (rel : Rel K T φ σ H s) (rr : Rr K T φ s.env σ H rv v) (hA : ∀ p, Mi φ s.env σ p → A p) (hT : ∀ p, Tm rv v p → A p) : Q v H :=
  h φ H v (List.prefix_refl _) (Ext.refl.less fun p z => z.elim (hA p) (hT p)) rel rr
/-- something new was made, the result -/
theorem Post.retNew {A : Addr → Prop} {rv : RV} {p : Addr} {o : HO} {Q : VK} (h : Post K T W (Rr K T) Tm A φ σ H (.ok rv s) Q) (rel : Rel K T φ σ H s) (hp : H p = none) (rr : Rr K T φ s.env σ (upd H p o) rv (.ref p)) (hA : ∀ p, Mi φ s.env σ p → A p) : Q (.ref p) (upd H p o) := by
  refine h φ _ _ (List.prefix_refl _) ((Ext.alloc (A := A) (o := o) hp).less fun q z => ?_) (rel.alloc hp) rr
  rcases z with z | z
  · exact .inl (hA q z)
  · cases rv with
    | l vs => exact .inr z
    | v x => exact (show False from z).elim
    | f vs => exact (show False from z).elim
    | z vs => exact (show False from z).elim
end
end Py

set_option Elab.async false
set_option linter.all false
set_option maxRecDepth 100000
set_option maxHeartbeats 4000000
/-! P1: operands, argument lists. -/
namespace Py
open PySem PySem.Spec PyProof.Rows L2

/-- an operand: a name's slot (read behind all operands), or any expression -/
inductive Opd where
  | nm (i : Nat) | ex (m : M RV)
abbrev Pn := Sum Nat RV
def rdS (env : List (Option RV)) (i : Nat) : Option RV := match env[i]? with
  | some (some (.v x)) => some (.v x)
  | some (some (.l vs)) => some (.f vs)
  | some (some (.f vs)) => some (.f vs)
  | some (some (.z vs)) => some (.z vs)
  | _ => none
def Opd.run : Opd → S → Rs Pn
  | .nm i, s => (match rdS s.env i with
    | some _ => .ok (.inl i) s
    | none => .bad)
  | .ex m, s => (m s).bind fun r s1 => match r with
    | .v x => .ok (.inr (.v x)) s1
    | .l vs => .ok (.inr (.l vs)) s1
    | .z vs => .ok (.inr (.z vs)) s1
    | .f _ => .bad
def rd (env : List (Option RV)) : Pn → Option RV
  | .inl i => rdS env i
  | .inr r => some r
def runL : List Opd → S → Rs (List Pn)
  | [], s => .ok [] s
  | o :: os, s => (o.run s).bind fun p s1 => (runL os s1).bind fun ps s2 => .ok (p :: ps) s2
def rdL (env : List (Option RV)) : List Pn → Option (List RV)
  | [] => some []
  | p :: ps => match rd env p with
    | some r => (match rdL env ps with
      | some rs => some (r :: rs)
      | none => none)
    | none => none
/-- operands, then g of what they give -/
def mN {α : Type} (os : List Opd) (g : List RV → S → Rs α) : M α := fun s => (runL os s).bind fun ps s1 => match rdL s1.env ps with
  | some rs => g rs s1
  | none => .bad

def opSl : Opd → List Nat
  | .nm i => [i]
  | .ex _ => []
section
variable (K : PySem.W.Frag) (T : Tp) (W : WX)
def tO : Opd → TE
  | .nm i => tVar i
  | .ex m => tE K T W m
def tOs : List Opd → TA
  | [] => tNil
  | o :: os => tCons (tO K T W o) (tOs os)
end
def Pnd (K : PySem.W.Frag) (T : Tp) (φ : List Addr) (env : List (Option RV)) (σ : L2.St) (H : Hp) : Pn → V → Prop
  | .inl i, x => σ[i]? = some (some x)
  | .inr r, x => (∀ vs, r ≠ .f vs) ∧ Rr K T φ env σ H r x
def TmP : Pn → V → Addr → Prop
  | .inl _, _, _ => False
  | .inr r, x, a => Tm r x a
def TmPs : List Pn → List V → Addr → Prop
  | p :: ps, x :: xs, a => TmP p x a ∨ TmPs ps xs a
  | _, _, _ => False
def AllP (K : PySem.W.Frag) (T : Tp) (φ : List Addr) (env : List (Option RV)) (σ : L2.St) (H : Hp) : List Pn → List V → Prop
  | [], [] => True
  | p :: ps, x :: xs => Pnd K T φ env σ H p x ∧ AllP K T φ env σ H ps xs ∧ ∀ a, TmP p x a → ¬ TmPs ps xs a
  | _, _ => False
def TmL : List RV → List V → Addr → Prop
  | r :: rs, x :: xs, a => Tm r x a ∨ TmL rs xs a
  | _, _, _ => False
def AllR (K : PySem.W.Frag) (T : Tp) (φ : List Addr) (env : List (Option RV)) (σ : L2.St) (H : Hp) : List RV → List V → Prop
  | [], [] => True
  | r :: rs, x :: xs => Rr K T φ env σ H r x ∧ AllR K T φ env σ H rs xs ∧ ∀ a, Tm r x a → ¬ TmL rs xs a
  | _, _ => False
section
variable {K : PySem.W.Frag} {T : Tp} {W : WX} {φ φ' : List Addr} {σ : L2.St} {H H' : Hp} {s : S}
theorem Pnd.ext {A : Addr → Prop} {env env' : List (Option RV)} {p : Pn} {x : V} (h : Pnd K T φ env σ H p x) (pr : φ <+: φ') (e : Ext (Mi φ env σ) H (fun a => Mi φ' env' σ a ∨ A a) H') : Pnd K T φ' env' σ H' p x := by
  cases p with
  | inl i => exact h
  | inr r =>
    obtain ⟨a, b⟩ := h
    exact And.intro a (Rr.ext b a pr e)
theorem TmP.there {env : List (Option RV)} {p : Pn} {x : V} {a : Addr} (h : Pnd K T φ env σ H p x) (t : TmP p x a) : ¬ Fr H a ∧ ¬ Mi φ env σ a := by
  cases p with
  | inl i => exact t.elim
  | inr r =>
    obtain ⟨_, h⟩ := h
    cases r with
    | v y => exact (show False from t).elim
    | f vs => exact (show False from t).elim
    | z vs => exact (show False from t).elim
    | l vs =>
      obtain ⟨q, xs, rfl, e1, e2, _, e3⟩ := h
      have t' : a = q := t
      subst t'
      exact ⟨fun z => z.lst e1, e2⟩
/-- a slot that is read -/
theorem rdS_ok {i : Nat} {rv : RV} (rel : Rel K T φ σ H s) (h : rdS s.env i = some rv) : ∃ x, σ[i]? = some (some x) ∧ Rr K T φ s.env σ H rv x ∧ ∀ a, ¬ Tm rv x a := by
  unfold rdS at h
  split at h
  · rename_i y e
    cases h
    obtain ⟨v, e1, e2⟩ := rel.slot i _ e
    exact ⟨v, e1, e2, fun _ z => z⟩
  · rename_i vs e
    cases h
    obtain ⟨p, xs, e1, e2, e3, e4⟩ := rel.slot i _ e
    exact ⟨_, e1, ⟨p, xs, rfl, e2, ⟨e3, .inl ⟨i, vs, e, e1⟩⟩, e4⟩, fun _ z => z⟩
  · rename_i vs e
    cases h
    obtain ⟨p, xs, e1, e2, e3, e4⟩ := rel.slot i _ e
    exact ⟨_, e1, ⟨p, xs, rfl, e2, ⟨fun m => (rel.bor p e3).2 (.inl m), .inr e3⟩, e4⟩, fun _ z => z⟩
  · rename_i vs e
    cases h
    obtain ⟨p, xs, e1, e2, e4⟩ := rel.slot i _ e
    exact ⟨_, e1, ⟨p, xs, rfl, e2, e4⟩, fun _ z => z⟩
  · cases h
theorem opd_step' {α2 β2 : Type} {R2 : List Addr → List (Option RV) → L2.St → Hp → α2 → β2 → Prop} {Tm2 : α2 → β2 → Addr → Prop} {A : Addr → Prop} {o : Opd} {f : Pn → S → Rs α2} {Q : β2 → Hp → Prop} (rel : Rel K T φ σ H s)
    (h : Post K T W R2 Tm2 A φ σ H ((o.run s).bind f) Q) (hA : ∀ p, Mi φ s.env σ p → A p) (Q' : VK)
    (hq : ∀ x H1 φ1 s1 pa, (∀ i, pa = .inl i → i ∈ opSl o) → φ <+: φ1 → Ext (Mi φ s.env σ) H (fun p => Mi φ1 s1.env σ p ∨ TmP pa x p) H1 → Rel K T φ1 σ H1 s1 → Pnd K T φ1 s1.env σ H1 pa x → Post K T W R2 Tm2 (fun p => A p ∨ (Mi φ1 s1.env σ p ∨ TmP pa x p)) φ1 σ H1 (f pa s1) Q → Q' x H1)
    : tO K T W o σ H Q' := by
  cases o with
  | nm i =>
    have h : Post K T W R2 Tm2 A φ σ H ((match rdS s.env i with
      | some _ => Rs.ok (Sum.inl i : Pn) s
      | none => .bad).bind f) Q := h
    cases er : rdS s.env i with
    | none =>
      rw [er] at h
      exact (show False from h).elim
    | some rv =>
    rw [er] at h
    obtain ⟨x, hx, _⟩ := rdS_ok rel er
    refine ⟨x, hx, hq x H φ s (.inl i) (fun j e => by cases e; exact List.mem_singleton.mpr rfl) (List.prefix_refl _) (Ext.refl.less fun p z => z.elim id fun z => z.elim) rel hx ?_⟩
    have h' : Post K T W R2 Tm2 A φ σ H (f (.inl i) s) Q := h
    cases q : f (.inl i) s with
    | bad =>
      rw [q] at h'
      exact h'
    | exn c fs s' =>
      rw [q] at h'
      exact fun φ' H' d pr' x' rel' xf => h' φ' H' d pr' (x'.weak (fun p z => z.elim id fun z => z.elim (hA p) fun z => z.elim) fun p z => .inl z) rel' xf
    | ok a2 s2 =>
      rw [q] at h'
      exact fun φ' H' b' pr' x' rel' rr' => h' φ' H' b' pr' (x'.weak (fun p z => z.elim id fun z => z.elim (hA p) fun z => z.elim) fun p z => .inl z) rel' rr'
  | ex m =>
    refine ⟨φ, s, rel, ?_⟩
    have e : ((Opd.ex m).run s).bind f = (m s).bind fun r s1 => (match r with
      | .v x => Rs.ok (Sum.inr (RV.v x) : Pn) s1
      | .l vs => .ok (.inr (.l vs)) s1
      | .z vs => .ok (.inr (.z vs)) s1
      | .f _ => .bad).bind f := by
      show ((m s).bind _).bind f = _
      cases m s <;> rfl
    rw [e] at h
    refine (h.bind (R1 := Rr K T) (Tm1 := Tm) hA).mono fun x H1 hx => ?_
    obtain ⟨φ1, s1, r, _, pr, ex, rel1, rr, hp⟩ := hx
    cases r with
    | v y => exact hq x H1 φ1 s1 (.inr (.v y)) (fun j e => by cases e) pr ex rel1 ⟨fun _ z => (by cases z), rr⟩ hp
    | l vs => exact hq x H1 φ1 s1 (.inr (.l vs)) (fun j e => by cases e) pr ex rel1 ⟨fun _ z => (by cases z), rr⟩ hp
    | z vs => exact hq x H1 φ1 s1 (.inr (.z vs)) (fun j e => by cases e) pr ex rel1 ⟨fun _ z => (by cases z), rr⟩ hp
    | f vs => exact hp.elim

theorem opd_step {α2 β2 : Type} {R2 : List Addr → List (Option RV) → L2.St → Hp → α2 → β2 → Prop} {Tm2 : α2 → β2 → Addr → Prop} {A : Addr → Prop} {o : Opd} {f : Pn → S → Rs α2} {Q : β2 → Hp → Prop} (rel : Rel K T φ σ H s)
    (h : Post K T W R2 Tm2 A φ σ H ((o.run s).bind f) Q) (hA : ∀ p, Mi φ s.env σ p → A p) (Q' : VK)
    (hq : ∀ x H1 φ1 s1 pa, φ <+: φ1 → Ext (Mi φ s.env σ) H (fun p => Mi φ1 s1.env σ p ∨ TmP pa x p) H1 → Rel K T φ1 σ H1 s1 → Pnd K T φ1 s1.env σ H1 pa x → Post K T W R2 Tm2 (fun p => A p ∨ (Mi φ1 s1.env σ p ∨ TmP pa x p)) φ1 σ H1 (f pa s1) Q → Q' x H1)
    : tO K T W o σ H Q' :=
  opd_step' rel h hA Q' fun x H1 φ1 s1 pa _ => hq x H1 φ1 s1 pa
theorem runL_cons {α : Type} {o : Opd} {os : List Opd} {f : List Pn → S → Rs α} : (runL (o :: os) s).bind f = (o.run s).bind fun p s1 => (runL os s1).bind fun ps s2 => f (p :: ps) s2 := by
  show ((o.run s).bind fun p s1 => (runL os s1).bind fun ps s2 => .ok (p :: ps) s2).bind f = _
  cases o.run s with
  | bad => rfl
  | exn c fs s' => rfl
  | ok p s1 =>
    show ((runL os s1).bind fun ps s2 => .ok (p :: ps) s2).bind f = (runL os s1).bind fun ps s2 => f (p :: ps) s2
    cases runL os s1 <;> rfl
theorem AllP.nil_of {env : List (Option RV)} {xs : List V} (h : AllP K T φ env σ H [] xs) : xs = [] := by
  cases xs with
  | nil => rfl
  | cons x xs => exact h.elim
theorem args_step' {α2 β2 : Type} {R2 : List Addr → List (Option RV) → L2.St → Hp → α2 → β2 → Prop} {Tm2 : α2 → β2 → Addr → Prop} {A : Addr → Prop} {os : List Opd} {f : List Pn → S → Rs α2} {Q : β2 → Hp → Prop} (rel : Rel K T φ σ H s)
    (h : Post K T W R2 Tm2 A φ σ H ((runL os s).bind f) Q) (hA : ∀ p, Mi φ s.env σ p → A p) (Q' : List V → Hp → Prop)
    (hq : ∀ xs H1 φ1 s1 ps, ps.length = os.length → (∀ i, Sum.inl i ∈ ps → i ∈ os.flatMap opSl) → φ <+: φ1 → Ext (Mi φ s.env σ) H (fun p => Mi φ1 s1.env σ p ∨ TmPs ps xs p) H1 → Rel K T φ1 σ H1 s1 → AllP K T φ1 s1.env σ H1 ps xs → Post K T W R2 Tm2 (fun p => A p ∨ (Mi φ1 s1.env σ p ∨ TmPs ps xs p)) φ1 σ H1 (f ps s1) Q → Q' xs H1) :
    tOs K T W os σ H Q' := by
  induction os generalizing φ H s A f Q' with
  | nil =>
    refine hq [] H φ s [] rfl (fun _ z => by cases z) (List.prefix_refl _) (Ext.refl.less fun p z => z.elim id fun z => (show False from z).elim) rel trivial ?_
    have h' : Post K T W R2 Tm2 A φ σ H (f [] s) Q := h
    cases q : f [] s with
    | bad =>
      rw [q] at h'
      exact h'
    | exn c fs s' =>
      rw [q] at h'
      exact fun φ' H' d pr' x' rel' xf => h' φ' H' d pr' (x'.weak (fun p z => z.elim id fun z => z.elim (hA p) fun z => (show False from z).elim) fun p z => .inl z) rel' xf
    | ok a2 s2 =>
      rw [q] at h'
      exact fun φ' H' b' pr' x' rel' rr' => h' φ' H' b' pr' (x'.weak (fun p z => z.elim id fun z => z.elim (hA p) fun z => (show False from z).elim) fun p z => .inl z) rel' rr'
  | cons o os ih =>
    rw [runL_cons] at h
    refine opd_step' rel h hA _ fun x H1 φ1 s1 pa sl1 pr ex rel1 pn hp => ?_
    refine ih rel1 hp (fun p z => .inr (.inl z)) _ fun xs H2 φ2 s2 ps hlen sl2 pr2 ex2 rel2 pn2 hp2 => ?_
    have pn1 := pn.ext pr2 ex2
    refine hq (x :: xs) H2 φ2 s2 (pa :: ps) (by simp [hlen]) (fun i z => ?_) (pr.trans pr2) ?_ rel2 ⟨pn1, pn2, fun a t t2 => ?_⟩ ?_
    · simp only [List.flatMap_cons, List.mem_append]
      rcases List.mem_cons.mp z with e | z
      · exact .inl (sl1 i e.symm)
      · exact .inr (sl2 i z)
    · refine (ex.trans (ex2.weak (C := fun p => Mi φ1 s1.env σ p ∨ TmP pa x p) (fun p z => .inl z) fun p z => ?_))
      rcases z with z | z | z
      · exact .inl (.inl z)
      · exact .inr (.inr z)
      · exact .inl (.inr z)
    · obtain ⟨h1, h2⟩ := TmP.there pn t
      rcases ex2.new a (.inr t2) with z | z
      · exact h2 z
      · exact h1 z
    · cases q : f (pa :: ps) s2 with
      | bad =>
        rw [q] at hp2
        exact hp2
      | exn c fs s' =>
        rw [q] at hp2
        refine fun φ' H' d pr' x' rel' xf => hp2 φ' H' d pr' (x'.weak (fun p z => ?_) fun p z => .inl z) rel' xf
        rcases z with z | z | z | z
        · exact .inl (.inl z)
        · exact .inr (.inl z)
        · exact .inl (.inr (.inr z))
        · exact .inr (.inr z)
      | ok a2 s3 =>
        rw [q] at hp2
        refine fun φ' H' b' pr' x' rel' rr' => hp2 φ' H' b' pr' (x'.weak (fun p z => ?_) fun p z => .inl z) rel' rr'
        rcases z with z | z | z | z
        · exact .inl (.inl z)
        · exact .inr (.inl z)
        · exact .inl (.inr (.inr z))
        · exact .inr (.inr z)
theorem args_step {α2 β2 : Type} {R2 : List Addr → List (Option RV) → L2.St → Hp → α2 → β2 → Prop} {Tm2 : α2 → β2 → Addr → Prop} {A : Addr → Prop} {os : List Opd} {f : List Pn → S → Rs α2} {Q : β2 → Hp → Prop} (rel : Rel K T φ σ H s)
    (h : Post K T W R2 Tm2 A φ σ H ((runL os s).bind f) Q) (hA : ∀ p, Mi φ s.env σ p → A p) (Q' : List V → Hp → Prop)
    (hq : ∀ xs H1 φ1 s1 ps, ps.length = os.length → φ <+: φ1 → Ext (Mi φ s.env σ) H (fun p => Mi φ1 s1.env σ p ∨ TmPs ps xs p) H1 → Rel K T φ1 σ H1 s1 → AllP K T φ1 s1.env σ H1 ps xs → Post K T W R2 Tm2 (fun p => A p ∨ (Mi φ1 s1.env σ p ∨ TmPs ps xs p)) φ1 σ H1 (f ps s1) Q → Q' xs H1) :
    tOs K T W os σ H Q' :=
  args_step' rel h hA Q' fun xs H1 φ1 s1 ps l _ => hq xs H1 φ1 s1 ps l
/-- the operands resolved -/
theorem rdL_ok {ps : List Pn} {xs : List V} {rs : List RV} (rel : Rel K T φ σ H s) (h : AllP K T φ s.env σ H ps xs) (e : rdL s.env ps = some rs) : (AllR K T φ s.env σ H rs xs ∧ ∀ a, TmL rs xs a → TmPs ps xs a) ∧ rs.length = ps.length := by
  induction ps generalizing xs rs with
  | nil =>
    cases e
    rw [h.nil_of]
    exact ⟨⟨trivial, fun _ z => z⟩, rfl⟩
  | cons p ps ih =>
    cases xs with
    | nil => exact (show False from h).elim
    | cons x xs =>
    obtain ⟨h1, h2, h3⟩ := h
    have e' : (match rd s.env p with
      | some r => (match rdL s.env ps with
        | some rs => some (r :: rs)
        | none => none)
      | none => none) = some rs := e
    cases e1 : rd s.env p with
    | none =>
      rw [e1] at e'
      cases e'
    | some r =>
      rw [e1] at e'
      cases e2 : rdL s.env ps with
      | none =>
        rw [e2] at e'
        cases e'
      | some rs2 =>
        rw [e2] at e'
        cases e'
        obtain ⟨⟨i1, i2⟩, i3⟩ := ih h2 e2
        cases p with
        | inl i =>
          obtain ⟨y, a1, a2, a3⟩ := rdS_ok rel e1
          have a1' : σ[i]? = some (some x) := h1
          rw [a1] at a1'
          cases a1'
          exact ⟨⟨⟨a2, i1, fun a z => (a3 a z).elim⟩, fun a z => z.elim (fun z => (a3 a z).elim) fun z => .inr (i2 a z)⟩, by simp [i3]⟩
        | inr r' =>
          cases e1
          exact ⟨⟨⟨h1.2, i1, fun a z z2 => h3 a z (i2 a z2)⟩, fun a z => z.elim .inl fun z => .inr (i2 a z)⟩, by simp [i3]⟩
theorem AllR.length {env : List (Option RV)} : ∀ {rs : List RV} {xs : List V}, AllR K T φ env σ H rs xs → rs.length = xs.length
  | [], [], _ => rfl
  | _ :: rs, _ :: xs, h => congrArg (· + 1) (AllR.length h.2.1)
  | [], _ :: _, h => h.elim
  | _ :: _, [], h => h.elim
/-- operands, then the last step -/
theorem mN_step {α2 β2 : Type} {R2 : List Addr → List (Option RV) → L2.St → Hp → α2 → β2 → Prop} {Tm2 : α2 → β2 → Addr → Prop} {os : List Opd} {g : List RV → S → Rs α2} {Q : β2 → Hp → Prop} (Q' : List V → Hp → Prop) (rel : Rel K T φ σ H s)
    (h : Post K T W R2 Tm2 (Mi φ s.env σ) φ σ H (mN os g s) Q)
    (hq : ∀ xs H1 φ1 s1 rs A, rs.length = os.length → xs.length = os.length → Rel K T φ1 σ H1 s1 → AllR K T φ1 s1.env σ H1 rs xs → (∀ p, Mi φ1 s1.env σ p → A p) → (∀ p, TmL rs xs p → A p) → Post K T W R2 Tm2 A φ1 σ H1 (g rs s1) Q → Q' xs H1) : tOs K T W os σ H Q' := by
  refine args_step rel h (fun _ z => z) Q' fun xs H1 φ1 s1 ps hlen pr ex rel1 pn hp => ?_
  cases e : rdL s1.env ps with
  | none =>
    rw [e] at hp
    exact (show False from hp).elim
  | some rs =>
    rw [e] at hp
    obtain ⟨⟨a1, a2⟩, a3⟩ := rdL_ok rel1 pn e
    exact hq xs H1 φ1 s1 rs _ (a3.trans hlen) (a1.length.symm.trans (a3.trans hlen)) rel1 a1 (fun p z => .inr (.inl z)) (fun p z => .inr (.inr (a2 p z))) hp
end
end Py

set_option Elab.async false
set_option linter.all false
set_option maxRecDepth 100000
set_option maxHeartbeats 4000000
/-! P2: expressions: constants, names, operators, comparisons, and / or / not, fields, items, displays. -/
namespace Py
open PySem PySem.Spec PyProof.Rows L2

theorem PE.imp {X : Cx} {e : Expr} {t t' : TE} (h : PE X e t) (i : ∀ σ H Q, t' σ H Q → t σ H Q) : PE X e t' := ⟨fun pins s σ H Q I hw => h.run pins s σ H Q I (i σ H Q hw)⟩
theorem PT.imp {X : Cx} {e : Expr} {t t' : TT} (h : PT X e t) (i : ∀ σ H Q, t' σ H Q → t σ H Q) : PT X e t' := ⟨fun pins s σ H Q I hw => h.run pins s σ H Q I (i σ H Q hw)⟩

/-! ### the plain side -/
def mC (x : IV) : M RV := fun s => .ok (.v x) s
/-- a name that holds a value -/
def mRd (i : Nat) : M RV := fun s => match s.env[i]? with
  | some (some (.v x)) => .ok (.v x) s
  | _ => .bad
/-- a name that gives its list away: it becomes an object -/
def mLk (i : Nat) : M RV := fun s => match s.env[i]? with
  | some (some (.v x)) => .ok (.v x) s
  | some (some (.l vs)) => .ok (.v (.ref s.hp.length)) ⟨s.env.set i (some (.v (.ref s.hp.length))), s.hp ++ [.lst vs]⟩
  | _ => .bad
/-- a name that hands on its list and is not read again -/
def mMv (i : Nat) : M RV := fun s => match s.env[i]? with
  | some (some (.v x)) => .ok (.v x) s
  | some (some (.l vs)) => .ok (.l vs) ⟨s.env.set i none, s.hp⟩
  | _ => .bad
abbrev G (α : Type) := List RV → S → Rs α
def gI2 (f : Int → Int → IV) : G RV := fun rs s => match rs with
  | [.v (.int i), .v (.int j)] => .ok (.v (f i j)) s
  | _ => .bad
def gI2c (C : Int → Int → Bool) (f : Int → Int → IV) : G RV := fun rs s => match rs with
  | [.v (.int i), .v (.int j)] => (match C i j with
    | true => .ok (.v (f i j)) s
    | false => .bad)
  | _ => .bad
def gI1 (f : Int → IV) : G RV := fun rs s => match rs with
  | [.v (.int i)] => .ok (.v (f i)) s
  | _ => .bad
def gS2 (f : Str → Str → IV) : G RV := fun rs s => match rs with
  | [.v (.str i), .v (.str j)] => .ok (.v (f i j)) s
  | _ => .bad
/-- the sequence of a tuple, a list -/
def seqOf (s : S) : RV → Option (List IV)
  | .v (.tup vs) => some vs
  | .v (.ref n) => (match s.hp[n]? with
    | some (.lst vs) => some vs
    | _ => none)
  | .l vs => some vs
  | .f vs => some vs
  | .z vs => some vs
  | _ => none
/-- the i-th, from behind where i is below 0 -/
def atZ {α : Type} (xs : List α) (i : Int) : Option α := if 0 ≤ i then (if i < xs.length then xs[i.toNat]? else none) else if -(xs.length : Int) ≤ i then xs[(i + xs.length).toNat]? else none
def gIx : G RV := fun rs s => match rs with
  | [r, .v (.int i)] => (match seqOf s r with
    | some vs => (match atZ vs i with
      | some x => .ok (.v x) s
      | none => .bad)
    | none => .bad)
  | _ => .bad
def gFld (f : Str) : G RV := fun rs s => match rs with
  | [.v (.ref n)] => (match s.hp[n]? with
    | some (.ins c fs) => (match fs.lookup f with
      | some x => .ok (.v x) s
      | none => .bad)
    | _ => .bad)
  | _ => .bad
/-- values into boxes -/
def boxL : List RV → S → Option (List IV × S)
  | [], s => some ([], s)
  | .v x :: rs, s => (boxL rs s).map fun p => (x :: p.1, p.2)
  | .l vs :: rs, s => (boxL rs ⟨s.env, s.hp ++ [.lst vs]⟩).map fun p => (.ref s.hp.length :: p.1, p.2)
  | _, _ => none
def gTup : G RV := fun rs s => match boxL rs s with
  | some (vs, s1) => (match decide (vs.length ≤ 100000) with
    | true => .ok (.v (.tup vs)) s1
    | false => .bad)
  | none => .bad
def gLst : G RV := fun rs s => match boxL rs s with
  | some (vs, s1) => (match decide (vs.length ≤ 100000) with
    | true => .ok (.l vs) s1
    | false => .bad)
  | none => .bad
def mTest (m : M RV) : M Bool := fun s => (m s).bind fun r s1 => match r with
  | .v (.bl b) => .ok b s1
  | _ => .bad
def mB (m : M Bool) : M RV := fun s => (m s).bind fun b s1 => .ok (.v (.bl b)) s1
def mAnd (a b : M Bool) : M Bool := fun s => (a s).bind fun k s1 => match k with
  | true => b s1
  | false => .ok false s1
def mOr (a b : M Bool) : M Bool := fun s => (a s).bind fun k s1 => match k with
  | true => .ok true s1
  | false => b s1
def mNot (a : M Bool) : M Bool := fun s => (a s).bind fun k s1 => .ok (!k) s1
def mIf {α : Type} (c : M Bool) (a b : M α) : M α := fun s => (c s).bind fun k s1 => match k with
  | true => a s1
  | false => b s1

section
variable {X : Cx} {T : Tp} {W : WX} {a b c : Expr} {es : List Expr} {oa ob oc : Opd} {os : List Opd} {pos : Pos}
/-- an operand stands for an expression -/
abbrev SO (X : Cx) (T : Tp) (W : WX) (e : Expr) (o : Opd) : Prop := PE X e (tO X.K T W o)
abbrev SE (X : Cx) (T : Tp) (W : WX) (e : Expr) (m : M RV) : Prop := PE X e (tE X.K T W m)
abbrev ST (X : Cx) (T : Tp) (W : WX) (e : Expr) (m : M Bool) : Prop := PT X e (tT X.K T W m)
abbrev SA (X : Cx) (T : Tp) (W : WX) (es : List Expr) (os : List Opd) : Prop := PA X es (tOs X.K T W os)
theorem so_nm {i : Nat} {x : Str} (hN : X.N[i]? = some x) (hv : Vis X.env.scope x) (hd : (x == ("__debug__" : Str)) = false := by decide) (hcd : (x == ("__classdict__" : Str)) = false := by decide) : SO X T W (.Name x pos) (.nm i) := pe_var hN hv hd hcd
theorem so_ex {m : M RV} (h : SE X T W a m) : SO X T W a (.ex m) := h
theorem sa_nil : SA X T W [] [] := pa_nil
theorem sa_cons (h : SO X T W a oa) (t : SA X T W es os) (hs : starEach (a :: es) X.env = (false, eval a X.env) :: starEach es X.env := by rfl) : SA X T W (a :: es) (oa :: os) := pa_cons h t hs

/-- a constant -/
theorem se_const {x : IV} {v : V} {e : Expr} (h : PE X e (tC v)) (r : ∀ φ H, Rv X.K φ H x v) : SE X T W e (mC x) := PE.imp h fun σ H Q ⟨φ, s, rel, p⟩ =>
  p.ret rel (r φ H) (fun _ z => z) fun _ z => (show False from z).elim
theorem se_int {i j} : SE X T W (.Constant (.int i) j pos) (mC (.int i)) := se_const pe_int fun _ _ => Rv.int
theorem se_bl {k j} : SE X T W (.Constant (.bool k) j pos) (mC (.bl k)) := se_const pe_bl fun _ _ => Rv.bl
theorem se_non {j} : SE X T W (.Constant .none j pos) (mC .non) := se_const pe_non fun _ _ => Rv.non
theorem se_str {z j} : SE X T W (.Constant (.str z) j pos) (mC (.str z)) := se_const pe_str fun _ _ => Rv.str
theorem se_rd {i : Nat} {x : Str} (hN : X.N[i]? = some x) (hv : Vis X.env.scope x) (hd : (x == ("__debug__" : Str)) = false := by decide) (hcd : (x == ("__classdict__" : Str)) = false := by decide) : SE X T W (.Name x pos) (mRd i) :=
  PE.imp (pe_var hN hv hd hcd) fun σ H Q ⟨φ, s, rel, p⟩ => by
    unfold mRd at p
    split at p
    · rename_i y e
      obtain ⟨v, e1, e2⟩ := rel.slot i _ e
      exact ⟨v, e1, p.ret rel e2 (fun _ z => z) fun _ z => (show False from z).elim⟩
    · exact (show False from p).elim

/-! ### two and more operands -/
theorem op2 {r : R2} {g : G RV} {σ : L2.St} {H : Hp} {Q : VK} (h : tE X.K T W (mN [oa, ob] g) σ H Q)
    (hq : ∀ x y H1 φ1 s1 r1 r2 A, Rel X.K T φ1 σ H1 s1 → Rr X.K T φ1 s1.env σ H1 r1 x → Rr X.K T φ1 s1.env σ H1 r2 y → (∀ p, Tm r1 x p → ¬ Tm r2 y p) → (∀ p, Mi φ1 s1.env σ p → A p) → (∀ p, Tm r1 x p → A p) → (∀ p, Tm r2 y p → A p) →
      Post X.K T W (Rr X.K T) Tm A φ1 σ H1 (g [r1, r2] s1) Q → r x y H1 Q) : tOp r (tO X.K T W oa) (tO X.K T W ob) σ H Q := by
  obtain ⟨φ, s, rel, p⟩ := h
  exact mN_step (fun xs H1 => r (xs.getD 0 .non) (xs.getD 1 .non) H1 Q) rel p fun xs H1 φ1 s1 rs A l1 l2 rel1 al hA hT hp => by
    match rs, xs, l1, l2, al, hp, hT with
    | [r1, r2], [x, y], _, _, al, hp, hT => exact hq x y H1 φ1 s1 r1 r2 A rel1 al.1 al.2.1.1 (fun p z z2 => al.2.2 p z (.inl z2)) hA (fun p z => hT p (.inl z)) (fun p z => hT p (.inr (.inl z))) hp
theorem op1 {r : V → Hp → VK → Prop} {g : G RV} {σ : L2.St} {H : Hp} {Q : VK} (h : tE X.K T W (mN [oa] g) σ H Q)
    (hq : ∀ x H1 φ1 s1 r1 A, Rel X.K T φ1 σ H1 s1 → Rr X.K T φ1 s1.env σ H1 r1 x → (∀ p, Mi φ1 s1.env σ p → A p) → (∀ p, Tm r1 x p → A p) → Post X.K T W (Rr X.K T) Tm A φ1 σ H1 (g [r1] s1) Q → r x H1 Q) :
    tO X.K T W oa σ H fun x H1 => r x H1 Q := by
  obtain ⟨φ, s, rel, p⟩ := h
  exact mN_step (fun xs H1 => r (xs.getD 0 .non) H1 Q) rel p fun xs H1 φ1 s1 rs A l1 l2 rel1 al hA hT hp => by
    match rs, xs, l1, l2, al, hp, hT with
    | [r1], [x], _, _, al, hp, hT => exact hq x H1 φ1 s1 r1 A rel1 al.1 hA (fun p z => hT p (.inl z)) hp
section
variable {φ : List Addr} {env : List (Option RV)} {σ : L2.St} {H : Hp} {s : S} {r1 r2 : RV} {x y : V} {A : Addr → Prop} {Q : VK}
/-- two ints in, a value out -/
theorem fin_I2 {f : Int → Int → IV} {g : Int → Int → V} (hf : ∀ i j φ H, Rv X.K φ H (f i j) (g i j)) (rel : Rel X.K T φ σ H s) (h1 : Rr X.K T φ s.env σ H r1 x) (h2 : Rr X.K T φ s.env σ H r2 y) (hA : ∀ p, Mi φ s.env σ p → A p)
    (hp : Post X.K T W (Rr X.K T) Tm A φ σ H (gI2 f [r1, r2] s) Q) : rI0 g x y H Q := by
  unfold gI2 at hp
  split at hp
  · rename_i i j e
    injection e with e1 e2
    injection e2 with e2 _
    subst e1 e2
    exact ⟨i, j, Rv.int_inv h1, Rv.int_inv h2, hp.ret rel (hf i j φ H) hA fun _ z => (show False from z).elim⟩
  · exact (show False from hp).elim
theorem fin_I2c {C : Int → Int → Bool} {D : Int → Int → Prop} {f : Int → Int → IV} {g : Int → Int → V} (hC : ∀ i j, C i j = true → D i j) (hf : ∀ i j φ H, Rv X.K φ H (f i j) (g i j)) (rel : Rel X.K T φ σ H s) (h1 : Rr X.K T φ s.env σ H r1 x) (h2 : Rr X.K T φ s.env σ H r2 y) (hA : ∀ p, Mi φ s.env σ p → A p)
    (hp : Post X.K T W (Rr X.K T) Tm A φ σ H (gI2c C f [r1, r2] s) Q) : rI D g x y H Q := by
  unfold gI2c at hp
  split at hp
  · rename_i i j e
    injection e with e1 e2
    injection e2 with e2 _
    subst e1 e2
    split at hp
    · rename_i c
      exact ⟨i, j, Rv.int_inv h1, Rv.int_inv h2, hC i j c, hp.ret rel (hf i j φ H) hA fun _ z => (show False from z).elim⟩
    · exact (show False from hp).elim
  · exact (show False from hp).elim
theorem fin_S2 {f : Str → Str → IV} {g : Str → Str → V} (hf : ∀ i j φ H, Rv X.K φ H (f i j) (g i j)) (rel : Rel X.K T φ σ H s) (h1 : Rr X.K T φ s.env σ H r1 x) (h2 : Rr X.K T φ s.env σ H r2 y) (hA : ∀ p, Mi φ s.env σ p → A p)
    (hp : Post X.K T W (Rr X.K T) Tm A φ σ H (gS2 f [r1, r2] s) Q) : ∃ i j, x = .str i ∧ y = .str j ∧ Q (g i j) H := by
  unfold gS2 at hp
  split at hp
  · rename_i i j e
    injection e with e1 e2
    injection e2 with e2 _
    subst e1 e2
    exact ⟨i, j, Rv.str_inv h1, Rv.str_inv h2, hp.ret rel (hf i j φ H) hA fun _ z => (show False from z).elim⟩
  · exact (show False from hp).elim
end
/-! ### numbers -/
theorem se_add (ha : SO X T W a oa) (hb : SO X T W b ob) : SE X T W (.BinOp a .Add b pos) (mN [oa, ob] (gI2 fun i j => .int (i + j))) :=
  PE.imp (pe_op op_add ha hb) fun σ H Q h => op2 h fun x y H1 φ1 s1 r1 r2 A rel h1 h2 _ hA _ _ hp => fin_I2 (fun _ _ _ _ => Rv.int) rel h1 h2 hA hp
theorem se_sub (ha : SO X T W a oa) (hb : SO X T W b ob) : SE X T W (.BinOp a .Sub b pos) (mN [oa, ob] (gI2 fun i j => .int (i - j))) :=
  PE.imp (pe_op op_sub ha hb) fun σ H Q h => op2 h fun x y H1 φ1 s1 r1 r2 A rel h1 h2 _ hA _ _ hp => fin_I2 (fun _ _ _ _ => Rv.int) rel h1 h2 hA hp
/-- one factor within 2^64 -/
def cMul (i j : Int) : Bool := (decide (-(2 ^ 64) < i) && decide (i < 2 ^ 64)) || (decide (-(2 ^ 64) < j) && decide (j < 2 ^ 64))
theorem cMul_ok (i j : Int) (h : cMul i j = true) : CMul i j := by
  unfold cMul at h
  simp only [Bool.or_eq_true, Bool.and_eq_true, decide_eq_true_eq] at h
  exact h
theorem se_mul (ha : SO X T W a oa) (hb : SO X T W b ob) : SE X T W (.BinOp a .Mult b pos) (mN [oa, ob] (gI2c cMul fun i j => .int (i * j))) :=
  PE.imp (pe_op op_mul ha hb) fun σ H Q h => op2 h fun x y H1 φ1 s1 r1 r2 A rel h1 h2 _ hA _ _ hp => fin_I2c cMul_ok (fun _ _ _ _ => Rv.int) rel h1 h2 hA hp
def cDiv (i j : Int) : Bool := decide (0 < j) && decide (j < 1073741824)
theorem cDiv_ok (i j : Int) (h : cDiv i j = true) : CDiv i j := by
  unfold cDiv at h
  simp only [Bool.and_eq_true, decide_eq_true_eq] at h
  exact h
theorem se_fdiv (ha : SO X T W a oa) (hb : SO X T W b ob) : SE X T W (.BinOp a .FloorDiv b pos) (mN [oa, ob] (gI2c cDiv fun i j => .int (i / j))) :=
  PE.imp (pe_op op_fdiv ha hb) fun σ H Q h => op2 h fun x y H1 φ1 s1 r1 r2 A rel h1 h2 _ hA _ _ hp => fin_I2c cDiv_ok (fun _ _ _ _ => Rv.int) rel h1 h2 hA hp
def cMod (i j : Int) : Bool := decide (0 < j)
theorem se_mod (ha : SO X T W a oa) (hb : SO X T W b ob) : SE X T W (.BinOp a .Mod b pos) (mN [oa, ob] (gI2c cMod fun i j => .int (i % j))) :=
  PE.imp (pe_op op_mod ha hb) fun σ H Q h => op2 h fun x y H1 φ1 s1 r1 r2 A rel h1 h2 _ hA _ _ hp => fin_I2c (D := fun _ j => 0 < j) (fun i j h => of_decide_eq_true h) (fun _ _ _ _ => Rv.int) rel h1 h2 hA hp
def cPow (i j : Int) : Bool := decide (0 ≤ j) && decide (j ≤ 1000000) && decide (i.natAbs < 2 ^ 64)
theorem cPow_ok (i j : Int) (h : cPow i j = true) : CPow i j := by
  unfold cPow at h
  simp only [Bool.and_eq_true, decide_eq_true_eq] at h
  exact ⟨h.1.1, h.1.2, h.2⟩
theorem se_pow (ha : SO X T W a oa) (hb : SO X T W b ob) : SE X T W (.BinOp a .Pow b pos) (mN [oa, ob] (gI2c cPow fun i j => .int (i ^ j.toNat))) :=
  PE.imp (pe_op op_pow ha hb) fun σ H Q h => op2 h fun x y H1 φ1 s1 r1 r2 A rel h1 h2 _ hA _ _ hp => fin_I2c cPow_ok (fun _ _ _ _ => Rv.int) rel h1 h2 hA hp
theorem se_neg (ha : SO X T W a oa) : SE X T W (.UnaryOp .USub a pos) (mN [oa] (gI1 fun i => .int (-i))) :=
  PE.imp (pe_un un_neg ha) fun σ H Q h => op1 (r := rU fun i => .int (-i)) h fun x H1 φ1 s1 r1 A rel h1 hA _ hp => by
    unfold gI1 at hp
    split at hp
    · rename_i i e
      injection e with e1 _
      subst e1
      exact ⟨i, Rv.int_inv h1, hp.ret rel Rv.int hA fun _ z => (show False from z).elim⟩
    · exact (show False from hp).elim
end
end Py

set_option Elab.async false
set_option linter.all false
set_option maxRecDepth 100000
set_option maxHeartbeats 4000000
/-! P3: comparisons, tests. -/
namespace Py
open PySem PySem.Spec PyProof.Rows L2

/-! ### plain values as data -/
mutual
def toD : IV → Option PyData
  | .non => some .none
  | .bl b => some (.bool b)
  | .int i => some (.int i)
  | .str z => some (.str z)
  | .tup vs => match toDL vs with
    | some ds => some (.tuple ds)
    | none => none
  | .ref _ => none
  | .hnd _ => none
def toDL : List IV → Option (List PyData)
  | [] => some []
  | v :: vs => match toD v with
    | some d => (match toDL vs with
      | some ds => some (d :: ds)
      | none => none)
    | none => none
end
/-- a result as data: a list's items are flat or tuples -/
def rD (hp : List IO) : RV → Option PyData
  | .v (.ref n) => (match hp[n]? with
    | some (.lst vs) => (match toDL vs with
      | some ds => some (.list ds)
      | none => none)
    | _ => none)
  | .v x => toD x
  | .l vs => (match toDL vs with
    | some ds => some (.list ds)
    | none => none)
  | .f vs => (match toDL vs with
    | some ds => some (.list ds)
    | none => none)
  | .z vs => (match toDL vs with
    | some ds => some (.list ds)
    | none => none)
def gEq (neg : Bool) : G RV := fun rs s => match rs with
  | [a, b] => (match rD s.hp a, rD s.hp b with
    | some d, some e => (match SeqAt.shaped d && SeqAt.shaped e with
      | true => .ok (.v (.bl (if neg then !PyData.eqv d e else PyData.eqv d e))) s
      | false => .bad)
    | _, _ => .bad)
  | _ => .bad
/-- x in a sequence, by == -/
def gIn (neg : Bool) : G RV := fun rs s => match rs with
  | [a, b] => (match rD s.hp a, rD s.hp b with
    | some d, some (.list ds) => (match SeqAt.shaped d && SeqAt.shaped (.list ds) with
      | true => .ok (.v (.bl (if neg then !ds.any fun z => PyData.eqv z d else ds.any fun z => PyData.eqv z d))) s
      | false => .bad)
    | some d, some (.tuple ds) => (match SeqAt.shaped d && SeqAt.shaped (.tuple ds) with
      | true => .ok (.v (.bl (if neg then !ds.any fun z => PyData.eqv z d else ds.any fun z => PyData.eqv z d))) s
      | false => .bad)
    | _, _ => .bad)
  | _ => .bad
/-- a text in a text -/
def gInS (neg : Bool) : G RV := fun rs s => match rs with
  | [.v (.str i), .v (.str j)] => .ok (.v (.bl (if neg then !(!(Builtin.Str.occurrences j i 0 j.length 1).isEmpty) else !(Builtin.Str.occurrences j i 0 j.length 1).isEmpty))) s
  | _ => .bad
def keyI : IV → Option Key
  | .int i => some (.inl i)
  | .str z => some (.inr z)
  | _ => none
def gInD (neg : Bool) : G RV := fun rs s => match rs with
  | [.v k, .v (.ref n)] => (match keyI k, s.hp[n]? with
    | some q, some (.dct kvs) => .ok (.v (.bl (if neg then !(kvs.lookup q).isSome else (kvs.lookup q).isSome))) s
    | _, _ => .bad)
  | _ => .bad
def isNon : IV → Bool
  | .non => true
  | _ => false
def gIsN (neg : Bool) : G RV := fun rs s => match rs with
  | [.v x] => .ok (.v (.bl (if neg then !isNon x else isNon x))) s
  | _ => .bad
/-- < .. of ints, < of texts -/
def gLt : G RV := fun rs s => match rs with
  | [.v (.int i), .v (.int j)] => .ok (.v (.bl (decide (i < j)))) s
  | [.v (.str i), .v (.str j)] => .ok (.v (.bl (decide (i.cps.toList < j.cps.toList)))) s
  | _ => .bad

section
variable {K : PySem.W.Frag} {φ : List Addr} {H : Hp}
theorem RvL.dp : ∀ {vs : List IV} {xs : List V} {ds : List PyData}, RvL K φ H vs xs → toDL vs = some ds → DpAll K H xs ds := by
  intro vs xs ds h
  induction h generalizing ds with
  | nil =>
    intro e
    unfold toDL at e
    cases e
    exact .nil
  | @lit x v vs xs e t ih =>
    intro e2
    unfold toDL at e2
    split at e2
    · rename_i d hd
      split at e2
      · rename_i ds' hds
        cases e2
        refine .cons ?_ (ih hds)
        cases x with
        | non => unfold toD at hd; cases hd; cases e; exact .non
        | bl b => unfold toD at hd; cases hd; cases e; exact .bl b
        | int i => unfold toD at hd; cases hd; cases e; exact .int i
        | str z => unfold toD at hd; cases hd; cases e; exact .str z
        | tup us => cases e
        | ref n => cases e
        | hnd a => unfold toD at hd; cases hd
      · cases e2
    · cases e2
  | @tup us ys vs xs p h r t ih1 ih2 =>
    intro e2
    unfold toDL at e2
    split at e2
    · rename_i d hd
      split at e2
      · rename_i ds' hds
        cases e2
        refine .cons ?_ (ih2 hds)
        unfold toD at hd
        split at hd
        · rename_i es hes
          cases hd
          exact .tup h (ih1 hes)
        · cases hd
      · cases e2
    · cases e2
  | @ref n p vs xs h t ih =>
    intro e2
    unfold toDL at e2
    split at e2
    · rename_i d hd
      unfold toD at hd
      cases hd
    · cases e2
theorem Rv.dp {x : IV} {v : V} {d : PyData} (h : Rv K φ H x v) (e : toD x = some d) : Dp K H v d := by
  have z : toDL [x] = some [d] := by
    unfold toDL
    rw [e]
    unfold toDL
    rfl
  cases RvL.dp h z with
  | cons a b => exact a
theorem Rr.dp {T : Tp} {σ : L2.St} {s : S} {r : RV} {v : V} {d : PyData} (rel : Rel K T φ σ H s) (h : Rr K T φ s.env σ H r v) (e : rD s.hp r = some d) : Dp K H v d := by
  unfold rD at e
  split at e
  · rename_i n
    obtain ⟨p, rfl, hp⟩ := Rv.ref_inv h
    split at e
    · rename_i vs hn
      split at e
      · rename_i ds hd
        cases e
        cases rel.obj n p _ hp hn with
        | lst h1 h2 => exact .lst (.of h1) (h2.dp hd)
      · cases e
    · cases e
  · exact Rv.dp h e
  · split at e
    · rename_i ds hd
      cases e
      obtain ⟨p, xs, rfl, h1, h2, _, h3⟩ := h
      exact .lst (.of h1) (h3.dp hd)
    · cases e
  · split at e
    · rename_i ds hd
      cases e
      obtain ⟨p, xs, rfl, h1, h2, h3⟩ := h
      exact .lst (.of h1) (h3.dp hd)
    · cases e
  · split at e
    · rename_i ds hd
      cases e
      obtain ⟨p, xs, rfl, h1, h3⟩ := h
      exact .lst h1.seq (h3.dp hd)
    · cases e
end

section
variable {X : Cx} {T : Tp} {W : WX} {a b c : Expr} {es : List Expr} {oa ob oc : Opd} {os : List Opd} {pos : Pos}
/-! ### comparisons as values and as tests -/
theorem test_of {m : M RV} {σ : L2.St} {H : Hp} {Q : Bool → Hp → Prop} (h : tT X.K T W (mTest m) σ H Q) : tE X.K T W m σ H fun x H' => ∃ k, x = .bl k ∧ Q k H' := by
  obtain ⟨φ, s, rel, p⟩ := h
  refine ⟨φ, s, rel, (p.bind (R1 := Rr X.K T) (Tm1 := Tm) fun _ z => z).mono fun x H1 hx => ?_⟩
  obtain ⟨φ1, s1, r, er, pr, ex, rel1, rr, hp⟩ := hx
  clear er
  split at hp
  · rename_i k
    exact ⟨k, Rv.bl_inv rr, hp φ1 H1 k (List.prefix_refl _) (Ext.refl.less fun p z => z.elim (fun z => .inr (.inl z)) fun z => z.elim) rel1 rfl⟩
  · exact (show False from hp).elim
theorem cmp_se {op : CmpOp} {r : R2} {g : G RV} (i : ∀ (σ : L2.St) (H : Hp) (Q : VK), tE X.K T W (mN [oa, ob] g) σ H Q → tOp r (tO X.K T W oa) (tO X.K T W ob) σ H Q) (ho : OpR X (compareOp op) r) (ha : SO X T W a oa) (hb : SO X T W b ob) (hm : behindInMarks op b = false) :
    SE X T W (.Compare a [op] [b] pos) (mN [oa, ob] g) := PE.imp (pe_cmpR ho ha hb hm) i
theorem cmp_st {op : CmpOp} {r : R2} {g : G RV} (i : ∀ (σ : L2.St) (H : Hp) (Q : VK), tE X.K T W (mN [oa, ob] g) σ H Q → tOp r (tO X.K T W oa) (tO X.K T W ob) σ H Q) (ho : OpR X (compareOp op) r) (ha : SO X T W a oa) (hb : SO X T W b ob) (hm : behindInMarks op b = false) :
    ST X T W (.Compare a [op] [b] pos) (mTest (mN [oa, ob] g)) := PT.imp (pt_cmpR ho ha hb hm) fun σ H Q h => i σ H _ (test_of h)
theorem i_le {σ : L2.St} {H : Hp} {Q : VK} (h : tE X.K T W (mN [oa, ob] (gI2 fun i j => .bl (decide (i ≤ j)))) σ H Q) : tOp (rI0 fun i j => .bl (decide (i ≤ j))) (tO X.K T W oa) (tO X.K T W ob) σ H Q := op2 h fun x y H1 φ1 s1 r1 r2 A rel h1 h2 _ hA _ _ hp => fin_I2 (fun _ _ _ _ => Rv.bl) rel h1 h2 hA hp
theorem i_gt {σ : L2.St} {H : Hp} {Q : VK} (h : tE X.K T W (mN [oa, ob] (gI2 fun i j => .bl (decide (j < i)))) σ H Q) : tOp (rI0 fun i j => .bl (decide (j < i))) (tO X.K T W oa) (tO X.K T W ob) σ H Q := op2 h fun x y H1 φ1 s1 r1 r2 A rel h1 h2 _ hA _ _ hp => fin_I2 (fun _ _ _ _ => Rv.bl) rel h1 h2 hA hp
theorem i_ge {σ : L2.St} {H : Hp} {Q : VK} (h : tE X.K T W (mN [oa, ob] (gI2 fun i j => .bl (decide (j ≤ i)))) σ H Q) : tOp (rI0 fun i j => .bl (decide (j ≤ i))) (tO X.K T W oa) (tO X.K T W ob) σ H Q := op2 h fun x y H1 φ1 s1 r1 r2 A rel h1 h2 _ hA _ _ hp => fin_I2 (fun _ _ _ _ => Rv.bl) rel h1 h2 hA hp
abbrev rLtS : R2 := fun x y H Q => (∃ i j, x = .int i ∧ y = .int j ∧ Q (.bl (decide (i < j))) H) ∨ ∃ i j, x = .str i ∧ y = .str j ∧ Q (.bl (decide (i.cps.toList < j.cps.toList))) H
theorem op_ltS : OpR X (compareOp .Lt) rLtS := OpR.or op_lt op_lt_str
theorem i_lt {σ : L2.St} {H : Hp} {Q : VK} (h : tE X.K T W (mN [oa, ob] gLt) σ H Q) : tOp rLtS (tO X.K T W oa) (tO X.K T W ob) σ H Q := op2 h fun x y H1 φ1 s1 r1 r2 A rel h1 h2 _ hA _ _ hp => by
  unfold gLt at hp
  split at hp
  · rename_i i j e
    injection e with e1 e2
    injection e2 with e2 _
    subst e1 e2
    exact .inl ⟨i, j, Rv.int_inv h1, Rv.int_inv h2, hp.ret rel Rv.bl hA fun _ z => (show False from z).elim⟩
  · rename_i i j e
    injection e with e1 e2
    injection e2 with e2 _
    subst e1 e2
    exact .inr ⟨i, j, Rv.str_inv h1, Rv.str_inv h2, hp.ret rel Rv.bl hA fun _ z => (show False from z).elim⟩
  · exact (show False from hp).elim
theorem se_le (ha : SO X T W a oa) (hb : SO X T W b ob) : SE X T W (.Compare a [.LtE] [b] pos) (mN [oa, ob] (gI2 fun i j => .bl (decide (i ≤ j)))) := cmp_se (fun _ _ _ => i_le) op_le ha hb (nomark _)
theorem st_le (ha : SO X T W a oa) (hb : SO X T W b ob) : ST X T W (.Compare a [.LtE] [b] pos) (mTest (mN [oa, ob] (gI2 fun i j => .bl (decide (i ≤ j))))) := cmp_st (fun _ _ _ => i_le) op_le ha hb (nomark _)
theorem se_gt (ha : SO X T W a oa) (hb : SO X T W b ob) : SE X T W (.Compare a [.Gt] [b] pos) (mN [oa, ob] (gI2 fun i j => .bl (decide (j < i)))) := cmp_se (fun _ _ _ => i_gt) op_gt ha hb (nomark _)
theorem st_gt (ha : SO X T W a oa) (hb : SO X T W b ob) : ST X T W (.Compare a [.Gt] [b] pos) (mTest (mN [oa, ob] (gI2 fun i j => .bl (decide (j < i))))) := cmp_st (fun _ _ _ => i_gt) op_gt ha hb (nomark _)
theorem se_ge (ha : SO X T W a oa) (hb : SO X T W b ob) : SE X T W (.Compare a [.GtE] [b] pos) (mN [oa, ob] (gI2 fun i j => .bl (decide (j ≤ i)))) := cmp_se (fun _ _ _ => i_ge) op_ge ha hb (nomark _)
theorem st_ge (ha : SO X T W a oa) (hb : SO X T W b ob) : ST X T W (.Compare a [.GtE] [b] pos) (mTest (mN [oa, ob] (gI2 fun i j => .bl (decide (j ≤ i))))) := cmp_st (fun _ _ _ => i_ge) op_ge ha hb (nomark _)
theorem se_lt (ha : SO X T W a oa) (hb : SO X T W b ob) : SE X T W (.Compare a [.Lt] [b] pos) (mN [oa, ob] gLt) := cmp_se (fun _ _ _ => i_lt) op_ltS ha hb (nomark _)
theorem st_lt (ha : SO X T W a oa) (hb : SO X T W b ob) : ST X T W (.Compare a [.Lt] [b] pos) (mTest (mN [oa, ob] gLt)) := cmp_st (fun _ _ _ => i_lt) op_ltS ha hb (nomark _)
/-! equality of data -/
theorem i_eq {σ : L2.St} {H : Hp} {Q : VK} (h : tE X.K T W (mN [oa, ob] (gEq false)) σ H Q) : tOp (rEqD X.K) (tO X.K T W oa) (tO X.K T W ob) σ H Q := op2 h fun x y H1 φ1 s1 r1 r2 A rel h1 h2 _ hA _ _ hp => by
  unfold gEq at hp
  dsimp only at hp
  split at hp
  · rename_i d e hd he
    split at hp
    · rename_i sh
      obtain ⟨sd, se⟩ := Bool.and_eq_true_iff.mp sh
      exact ⟨d, e, h1.dp rel hd, h2.dp rel he, sd, se, hp.ret rel Rv.bl hA fun _ z => (show False from z).elim⟩
    · exact (show False from hp).elim
  · exact (show False from hp).elim
theorem i_ne {σ : L2.St} {H : Hp} {Q : VK} (h : tE X.K T W (mN [oa, ob] (gEq true)) σ H Q) : tOp (rNeD X.K) (tO X.K T W oa) (tO X.K T W ob) σ H Q := op2 h fun x y H1 φ1 s1 r1 r2 A rel h1 h2 _ hA _ _ hp => by
  unfold gEq at hp
  dsimp only at hp
  split at hp
  · rename_i d e hd he
    split at hp
    · rename_i sh
      obtain ⟨sd, se⟩ := Bool.and_eq_true_iff.mp sh
      exact ⟨d, e, h1.dp rel hd, h2.dp rel he, sd, se, hp.ret rel Rv.bl hA fun _ z => (show False from z).elim⟩
    · exact (show False from hp).elim
  · exact (show False from hp).elim
theorem se_eq (hu : X.A.units + 64 < cLine) (ha : SO X T W a oa) (hb : SO X T W b ob) : SE X T W (.Compare a [.Eq] [b] pos) (mN [oa, ob] (gEq false)) := cmp_se (fun _ _ _ => i_eq) (op_eqD hu) ha hb (nomark _)
theorem st_eq (hu : X.A.units + 64 < cLine) (ha : SO X T W a oa) (hb : SO X T W b ob) : ST X T W (.Compare a [.Eq] [b] pos) (mTest (mN [oa, ob] (gEq false))) := cmp_st (fun _ _ _ => i_eq) (op_eqD hu) ha hb (nomark _)
theorem se_ne (hu : X.A.units + 64 < cLine) (ha : SO X T W a oa) (hb : SO X T W b ob) : SE X T W (.Compare a [.NotEq] [b] pos) (mN [oa, ob] (gEq true)) := cmp_se (fun _ _ _ => i_ne) (op_neD hu) ha hb (nomark _)
theorem st_ne (hu : X.A.units + 64 < cLine) (ha : SO X T W a oa) (hb : SO X T W b ob) : ST X T W (.Compare a [.NotEq] [b] pos) (mTest (mN [oa, ob] (gEq true))) := cmp_st (fun _ _ _ => i_ne) (op_neD hu) ha hb (nomark _)
/-! in a sequence of data -/
def rInA (K : PySem.W.Frag) (neg : Bool) : R2 := fun x y H Q => ∃ d ds e, Dp K H x d ∧ Dp K H y e ∧ (e = .list ds ∨ e = .tuple ds) ∧ SeqAt.shaped d = true ∧ SeqAt.shaped e = true ∧ Q (.bl (if neg then !ds.any fun z => PyData.eqv z d else ds.any fun z => PyData.eqv z d)) H
theorem op_inA (hu : X.A.units + 65 < cLine) : OpR X (compareOp .In) (rInA X.K false) := by
  intro pins s σ H x y v u Q I rx ry h
  obtain ⟨d, ds, e, hd, he, k, sd, se, q⟩ := h
  obtain ⟨as, r1⟩ := Dp.reads I d x v hd rx
  obtain ⟨bs, r2⟩ := Dp.reads I e y u he ry
  rcases k with k | k <;> subst k
  · exact SeqAt.in_list_reads r2 r1 (SeqAt.canLay_of_shaped se) (SeqAt.canLay_of_shaped sd) (room_in_shaped sd hu) ⟨.bl _, H, I, rfl, q⟩
  · exact SeqAt.in_tuple_reads r2 r1 (SeqAt.canLay_of_shaped se) (SeqAt.canLay_of_shaped sd) (room_in_shaped sd hu) ⟨.bl _, H, I, rfl, q⟩
theorem op_niA (hu : X.A.units + 65 < cLine) : OpR X (compareOp .NotIn) (rInA X.K true) := by
  intro pins s σ H x y v u Q I rx ry h
  obtain ⟨d, ds, e, hd, he, k, sd, se, q⟩ := h
  obtain ⟨as, r1⟩ := Dp.reads I d x v hd rx
  obtain ⟨bs, r2⟩ := Dp.reads I e y u he ry
  rcases k with k | k <;> subst k
  · exact SeqAt.notIn_list_reads r2 r1 (SeqAt.canLay_of_shaped se) (SeqAt.canLay_of_shaped sd) (room_in_shaped sd hu) ⟨.bl _, H, I, rfl, q⟩
  · exact SeqAt.notIn_tuple_reads r2 r1 (SeqAt.canLay_of_shaped se) (SeqAt.canLay_of_shaped sd) (room_in_shaped sd hu) ⟨.bl _, H, I, rfl, q⟩
theorem i_in {neg : Bool} {σ : L2.St} {H : Hp} {Q : VK} (h : tE X.K T W (mN [oa, ob] (gIn neg)) σ H Q) : tOp (rInA X.K neg) (tO X.K T W oa) (tO X.K T W ob) σ H Q := op2 h fun x y H1 φ1 s1 r1 r2 A rel h1 h2 _ hA _ _ hp => by
  unfold gIn at hp
  dsimp only at hp
  split at hp
  · rename_i d ds hd he
    split at hp
    · rename_i sh
      obtain ⟨sd, se⟩ := Bool.and_eq_true_iff.mp sh
      exact ⟨d, ds, _, h1.dp rel hd, h2.dp rel he, .inl rfl, sd, se, hp.ret rel Rv.bl hA fun _ z => (show False from z).elim⟩
    · exact (show False from hp).elim
  · rename_i d ds hd he
    split at hp
    · rename_i sh
      obtain ⟨sd, se⟩ := Bool.and_eq_true_iff.mp sh
      exact ⟨d, ds, _, h1.dp rel hd, h2.dp rel he, .inr rfl, sd, se, hp.ret rel Rv.bl hA fun _ z => (show False from z).elim⟩
    · exact (show False from hp).elim
  · exact (show False from hp).elim
theorem se_in (hu : X.A.units + 65 < cLine) (ha : SO X T W a oa) (hb : SO X T W b ob) (hm : behindInMarks .In b = false := by rfl) : SE X T W (.Compare a [.In] [b] pos) (mN [oa, ob] (gIn false)) := cmp_se (fun _ _ _ => i_in) (op_inA hu) ha hb hm
theorem st_in (hu : X.A.units + 65 < cLine) (ha : SO X T W a oa) (hb : SO X T W b ob) (hm : behindInMarks .In b = false := by rfl) : ST X T W (.Compare a [.In] [b] pos) (mTest (mN [oa, ob] (gIn false))) := cmp_st (fun _ _ _ => i_in) (op_inA hu) ha hb hm
theorem se_ni (hu : X.A.units + 65 < cLine) (ha : SO X T W a oa) (hb : SO X T W b ob) (hm : behindInMarks .NotIn b = false := by rfl) : SE X T W (.Compare a [.NotIn] [b] pos) (mN [oa, ob] (gIn true)) := cmp_se (fun _ _ _ => i_in) (op_niA hu) ha hb hm
theorem st_ni (hu : X.A.units + 65 < cLine) (ha : SO X T W a oa) (hb : SO X T W b ob) (hm : behindInMarks .NotIn b = false := by rfl) : ST X T W (.Compare a [.NotIn] [b] pos) (mTest (mN [oa, ob] (gIn true))) := cmp_st (fun _ _ _ => i_in) (op_niA hu) ha hb hm
theorem i_inS {σ : L2.St} {H : Hp} {Q : VK} (h : tE X.K T W (mN [oa, ob] (gInS false)) σ H Q) : tOp (fun x y H Q => ∃ i j, x = .str i ∧ y = .str j ∧ Q (.bl (!(Builtin.Str.occurrences j i 0 j.length 1).isEmpty)) H) (tO X.K T W oa) (tO X.K T W ob) σ H Q := op2 h fun x y H1 φ1 s1 r1 r2 A rel h1 h2 _ hA _ _ hp => by
  unfold gInS at hp
  split at hp
  · rename_i i j e
    injection e with e1 e2
    injection e2 with e2 _
    subst e1 e2
    exact ⟨i, j, Rv.str_inv h1, Rv.str_inv h2, hp.ret rel Rv.bl hA fun _ z => (show False from z).elim⟩
  · exact (show False from hp).elim
theorem se_inS (ha : SO X T W a oa) (hb : SO X T W b ob) (hm : behindInMarks .In b = false := by rfl) : SE X T W (.Compare a [.In] [b] pos) (mN [oa, ob] (gInS false)) := cmp_se (fun _ _ _ => i_inS) op_in_str ha hb hm
theorem st_inS (ha : SO X T W a oa) (hb : SO X T W b ob) (hm : behindInMarks .In b = false := by rfl) : ST X T W (.Compare a [.In] [b] pos) (mTest (mN [oa, ob] (gInS false))) := cmp_st (fun _ _ _ => i_inS) op_in_str ha hb hm

/-! ### tests and their chains -/
theorem st_val {m : M RV} (h : SE X T W a m) (he : ∀ whole, isTrue a X.env whole = (do let v ← whole; standAt a.pos; holding [v] (truthy v)) := by intro _; rfl) : ST X T W a (mTest m) := PT.imp (pt_val h he) fun σ H Q h => test_of h
theorem tT_bind {α : Type} {m : M Bool} {f : Bool → S → Rs α} {β : Type} {R2 : List Addr → List (Option RV) → L2.St → Hp → α → β → Prop} {Tm2 : α → β → Addr → Prop} {φ : List Addr} {σ : L2.St} {H : Hp} {s : S} {Q : β → Hp → Prop} (rel : Rel X.K T φ σ H s)
    (p : Post X.K T W R2 Tm2 (Mi φ s.env σ) φ σ H ((m s).bind f) Q) : tT X.K T W m σ H fun k H1 => ∃ φ1 s1, Rel X.K T φ1 σ H1 s1 ∧ Post X.K T W R2 Tm2 (Mi φ1 s1.env σ) φ1 σ H1 (f k s1) Q := by
  refine ⟨φ, s, rel, (p.bind (R1 := RB) (Tm1 := fun _ _ _ => False) fun _ z => z).mono fun k H1 hx => ?_⟩
  obtain ⟨φ1, s1, r, _, pr, ex, rel1, rr, hp⟩ := hx
  have rr : r = k := rr
  subst rr
  refine ⟨φ1, s1, rel1, ?_⟩
  cases q : f r s1 with
  | bad =>
    rw [q] at hp
    exact hp
  | exn c fs s' =>
    rw [q] at hp
    exact fun φ' H' d pr' x' rel' xf => hp φ' H' d pr' (x'.weak (fun p z => .inr (.inl z)) fun p z => .inl z) rel' xf
  | ok a2 s2 =>
    rw [q] at hp
    exact fun φ' H' b' pr' x' rel' rr' => hp φ' H' b' pr' (x'.weak (fun p z => .inr (.inl z)) fun p z => .inl z) rel' rr'
theorem tT_ok {φ : List Addr} {σ : L2.St} {H : Hp} {s : S} {k : Bool} {Q : Bool → Hp → Prop} (rel : Rel X.K T φ σ H s) (p : Post X.K T W RB (fun _ _ _ => False) (Mi φ s.env σ) φ σ H (.ok k s) Q) : Q k H :=
  p φ H k (List.prefix_refl _) (Ext.refl.less fun p z => z.elim id fun z => z.elim) rel rfl
theorem st_not {m : M Bool} (h : ST X T W a m) : ST X T W (.UnaryOp .Not a pos) (mNot m) := PT.imp (pt_not h) fun σ H Q ⟨φ, s, rel, p⟩ => by
  obtain ⟨φ', s', rel', p'⟩ := tT_bind rel p
  exact ⟨φ', s', rel', p'.mono fun k H1 ⟨φ1, s1, rel1, p1⟩ => tT_ok rel1 p1⟩
/-- and, or: the chain's rest -/
abbrev SW (X : Cx) (T : Tp) (W : WX) (e : Expr) (m : M Bool) : Prop := PW X e (tT X.K T W m)
theorem PW.imp {X : Cx} {e : Expr} {t t' : TT} (h : PW X e t) (i : ∀ σ H Q, t' σ H Q → t σ H Q) : PW X e t' := ⟨fun wh pins s σ H Q I hw => h.run wh pins s σ H Q I (i σ H Q hw)⟩
theorem sw_and1 {m : M Bool} (h : ST X T W a m) : SW X T W (.BoolOp .And [a] pos) m := pw_and1 h
theorem sw_or1 {m : M Bool} (h : ST X T W a m) : SW X T W (.BoolOp .Or [a] pos) m := pw_or1 h
theorem sw_and {m n : M Bool} (h : ST X T W a m) (h2 : SW X T W (.BoolOp .And (b :: es) pos) n) : SW X T W (.BoolOp .And (a :: b :: es) pos) (mAnd m n) := PW.imp (pw_and h h2) fun σ H Q ⟨φ, s, rel, p⟩ => by
  obtain ⟨φ', s', rel', p'⟩ := tT_bind rel p
  refine ⟨φ', s', rel', p'.mono fun k H1 ⟨φ1, s1, rel1, p1⟩ => ?_⟩
  cases k with
  | true => exact ⟨φ1, s1, rel1, p1⟩
  | false => exact tT_ok rel1 p1
theorem sw_or {m n : M Bool} (h : ST X T W a m) (h2 : SW X T W (.BoolOp .Or (b :: es) pos) n) : SW X T W (.BoolOp .Or (a :: b :: es) pos) (mOr m n) := PW.imp (pw_or h h2) fun σ H Q ⟨φ, s, rel, p⟩ => by
  obtain ⟨φ', s', rel', p'⟩ := tT_bind rel p
  refine ⟨φ', s', rel', p'.mono fun k H1 ⟨φ1, s1, rel1, p1⟩ => ?_⟩
  cases k with
  | false => exact ⟨φ1, s1, rel1, p1⟩
  | true => exact tT_ok rel1 p1
theorem st_bool {m : M Bool} (h : SW X T W a m) : ST X T W a m := h.pt
/-- .. as values -/
theorem tE_B {m : M Bool} {σ : L2.St} {H : Hp} {Q : VK} (h : tE X.K T W (mB m) σ H Q) : tT X.K T W m σ H fun k H1 => Q (.bl k) H1 := by
  obtain ⟨φ, s, rel, p⟩ := h
  obtain ⟨φ', s', rel', p'⟩ := tT_bind rel p
  exact ⟨φ', s', rel', p'.mono fun k H1 ⟨φ1, s1, rel1, p1⟩ => p1.ret rel1 Rv.bl (fun _ z => z) fun _ z => (show False from z).elim⟩
/-- what gives a bool as a value and as a test, the same -/
abbrev SV (X : Cx) (T : Tp) (W : WX) (e : Expr) (m : M Bool) : Prop := PE X e fun σ H Q => tT X.K T W m σ H fun k H1 => Q (.bl k) H1
theorem se_B {m : M Bool} (h : SV X T W a m) : SE X T W a (mB m) := PE.imp h fun σ H Q h => tE_B h
theorem sv_val {m : M RV} (h : SE X T W a m) : SV X T W a (mTest m) := PE.imp h fun σ H Q h => by
  obtain ⟨φ, s, rel, p⟩ := test_of h
  exact ⟨φ, s, rel, p.mono fun x H1 ⟨k, e, q⟩ => by rw [e]; exact q⟩
theorem sv_one {op} {m : M Bool} (h : SV X T W a m) : SV X T W (.BoolOp op [a] pos) m := pe_one h
theorem sv_and {m n : M Bool} (h : SV X T W a m) (h2 : SV X T W (.BoolOp .And (b :: es) pos) n) : SV X T W (.BoolOp .And (a :: b :: es) pos) (mAnd m n) := PE.imp (pe_and h h2) fun σ H Q ⟨φ, s, rel, p⟩ => by
  obtain ⟨φ', s', rel', p'⟩ := tT_bind rel p
  refine ⟨φ', s', rel', p'.mono fun k H1 ⟨φ1, s1, rel1, p1⟩ => ⟨k, rfl, ?_⟩⟩
  cases k with
  | true => exact ⟨φ1, s1, rel1, p1⟩
  | false => exact tT_ok (Q := fun k H1 => Q (.bl k) H1) rel1 p1
theorem sv_or {m n : M Bool} (h : SV X T W a m) (h2 : SV X T W (.BoolOp .Or (b :: es) pos) n) : SV X T W (.BoolOp .Or (a :: b :: es) pos) (mOr m n) := PE.imp (pe_or h h2) fun σ H Q ⟨φ, s, rel, p⟩ => by
  obtain ⟨φ', s', rel', p'⟩ := tT_bind rel p
  refine ⟨φ', s', rel', p'.mono fun k H1 ⟨φ1, s1, rel1, p1⟩ => ⟨k, rfl, ?_⟩⟩
  cases k with
  | false => exact ⟨φ1, s1, rel1, p1⟩
  | true => exact tT_ok (Q := fun k H1 => Q (.bl k) H1) rel1 p1
theorem sv_not {m : M Bool} (h : SV X T W a m) : SV X T W (.UnaryOp .Not a pos) (mNot m) := PE.imp (pe_not h) fun σ H Q ⟨φ, s, rel, p⟩ => by
  obtain ⟨φ', s', rel', p'⟩ := tT_bind rel p
  exact ⟨φ', s', rel', p'.mono fun k H1 ⟨φ1, s1, rel1, p1⟩ => ⟨k, rfl, tT_ok (Q := fun k H1 => Q (.bl k) H1) rel1 p1⟩⟩
theorem se_if {m : M Bool} {x y : M RV} (h : ST X T W c m) (ha : SE X T W a x) (hb : SE X T W b y) : SE X T W (.IfExp c a b pos) (mIf m x y) := PE.imp (pe_ifExp h ha hb) fun σ H Q ⟨φ, s, rel, p⟩ => by
  obtain ⟨φ', s', rel', p'⟩ := tT_bind rel p
  refine ⟨φ', s', rel', p'.mono fun k H1 ⟨φ1, s1, rel1, p1⟩ => ?_⟩
  cases k with
  | true => exact ⟨φ1, s1, rel1, p1⟩
  | false => exact ⟨φ1, s1, rel1, p1⟩
end
end Py

set_option Elab.async false
set_option linter.all false
set_option maxRecDepth 100000
set_option maxHeartbeats 4000000
/-! P4: boxes, displays, names that give their lists away, items, fields, slices, built-in calls on sequences. -/
namespace Py
open PySem PySem.Spec PyProof.Rows L2
section
variable {K : PySem.W.Frag} {T : Tp} {φ φ' : List Addr} {σ : L2.St} {H H' : Hp} {s s' : S}
theorem Rel.fresh (r : Rel K T φ σ H s) {p : Addr} (h : H p = none) : ¬ Mi φ s.env σ p ∧ p ∉ T.bor :=
  And.intro (fun m => by
    obtain ⟨u, e, _⟩ := r.there m
    rw [h] at e
    cases e) fun m => (r.bor p m).1 (Fr.of h)
theorem pre_snoc {p : Addr} : φ <+: φ ++ [p] := ⟨[p], rfl⟩
/-- a list that is nobody's becomes an object -/
theorem Rel.box {p : Addr} {xs : List V} {vs : List IV} (r : Rel K T φ σ H s) (h : H p = some (.lst xs)) (n : ¬ Mi φ s.env σ p) (nb : p ∉ T.bor) (rv : RvL K φ H vs xs) : Rel K T (φ ++ [p]) σ H ⟨s.env, s.hp ++ [.lst vs]⟩ where
  nd := List.nodup_append.mpr ⟨r.nd, by simp, fun a ha b hb => by
    have e : b = p := by simpa using hb
    rw [e]
    rintro rfl
    exact n (.inl ha)⟩
  len := by simp [r.len]
  obj := fun i a o h1 h2 => by
    by_cases q : i < φ.length
    · rw [List.getElem?_append_left q] at h1
      rw [List.getElem?_append_left (by rw [← r.len]; exact q)] at h2
      exact (r.obj i a o h1 h2).ext pre_snoc (Ext.refl (A := fun _ => False)) fun _ e => e
    · have l : i = φ.length := by
        have := (List.getElem?_eq_some_iff.mp h1).1
        simp at this
        omega
      subst l
      rw [r.len] at h2
      simp at h1 h2
      subst h1 h2
      exact .lst h (rv.ext pre_snoc (Ext.refl (A := fun _ => False)))
  slot := fun i q e => by
    have z := r.slot i q e
    cases q with
    | none => trivial
    | some q =>
      cases q with
      | v y =>
        obtain ⟨v, e1, e2⟩ := z
        exact ⟨v, e1, e2.ext pre_snoc (Ext.refl (A := fun _ => False))⟩
      | l us =>
        obtain ⟨q, ys, e1, e2, e3, e4⟩ := z
        refine ⟨q, ys, e1, e2, fun m => ?_, e4.ext pre_snoc (Ext.refl (A := fun _ => False))⟩
        rcases List.mem_append.mp m with m | m
        · exact e3 m
        · have eq : q = p := by simpa using m
          exact n (.inr ⟨i, us, e, by rw [← eq]; exact e1⟩)
      | f us =>
        obtain ⟨q, ys, e1, e2, e3, e4⟩ := z
        exact ⟨q, ys, e1, e2, e3, e4.ext pre_snoc (Ext.refl (A := fun _ => False))⟩
      | z us =>
        obtain ⟨q, ys, e1, e2, e4⟩ := z
        exact ⟨q, ys, e1, e2, e4.ext pre_snoc (Ext.refl (A := fun _ => False))⟩
  inj := r.inj
  tab := r.tab
  bor := fun b hb => by
    obtain ⟨h1, h2⟩ := r.bor b hb
    refine ⟨h1, fun m => ?_⟩
    rcases m with m | m
    · rcases List.mem_append.mp m with m | m
      · exact h2 (.inl m)
      · have eq : b = p := by simpa using m
        exact nb (by rw [← eq]; exact hb)
    · exact h2 (.inr m)
  elen := r.elen
theorem mi_snoc {p a : Addr} {env : List (Option RV)} (h : Mi (φ ++ [p]) env σ a) : Mi φ env σ a ∨ a = p := by
  rcases h with h | h
  · rcases List.mem_append.mp h with m | m
    · exact .inl (.inl m)
    · exact .inr (by simpa using m)
  · exact .inl (.inr h)
def noF : List RV → Prop
  | [] => True
  | .f _ :: _ => False
  | _ :: rs => noF rs
theorem boxL_noF : ∀ {rs : List RV} {s : S} {p : List IV × S}, boxL rs s = some p → noF rs
  | [], _, _, _ => trivial
  | .v x :: rs, s, p, h => by
    have h' : (boxL rs s).map (fun p => (x :: p.1, p.2)) = some p := h
    obtain ⟨q, e, _⟩ := Option.map_eq_some_iff.mp h'
    exact boxL_noF (rs := rs) e
  | .l vs :: rs, s, p, h => by
    have h' : (boxL rs ⟨s.env, s.hp ++ [.lst vs]⟩).map (fun p => (IV.ref s.hp.length :: p.1, p.2)) = some p := h
    obtain ⟨q, e, _⟩ := Option.map_eq_some_iff.mp h'
    exact boxL_noF (rs := rs) e
  | .f _ :: _, _, _, h => by
    cases h
  | .z _ :: _, _, _, h => by
    cases h
theorem AllR.snoc {p : Addr} {env : List (Option RV)} : ∀ {rs : List RV} {xs : List V}, AllR K T φ env σ H rs xs → noF rs → (∀ a, a = p → ¬ TmL rs xs a) → AllR K T (φ ++ [p]) env σ H rs xs
  | [], [], _, _, _ => trivial
  | .v x :: rs, y :: xs, h, n, d => ⟨RvL.ext (show Rv K φ H x y from h.1) pre_snoc (Ext.refl (A := fun _ => False)), AllR.snoc h.2.1 n fun a e z => d a e (.inr z), h.2.2⟩
  | .l us :: rs, y :: xs, h, n, d => by
    refine ⟨?_, AllR.snoc h.2.1 n fun a e z => d a e (.inr z), h.2.2⟩
    obtain ⟨q, ys, rfl, e1, e2, e3, e4⟩ := h.1
    refine ⟨q, ys, rfl, e1, fun m => ?_, e3, e4.ext pre_snoc (Ext.refl (A := fun _ => False))⟩
    rcases mi_snoc m with m | m
    · exact e2 m
    · exact d q m (.inl rfl)
  | .z us :: rs, y :: xs, h, n, d => by
    refine ⟨?_, AllR.snoc h.2.1 n fun a e z => d a e (.inr z), h.2.2⟩
    obtain ⟨q, ys, rfl, e1, e4⟩ := h.1
    exact ⟨q, ys, rfl, e1, e4.ext pre_snoc (Ext.refl (A := fun _ => False))⟩
  | .f us :: rs, y :: xs, h, n, d => n.elim
  | [], _ :: _, h, _, _ => h.elim
  | _ :: _, [], h, _, _ => by cases h
theorem boxL_ok : ∀ {rs : List RV} {xs : List V} {φ : List Addr} {s s1 : S} {vs : List IV}, Rel K T φ σ H s → AllR K T φ s.env σ H rs xs → boxL rs s = some (vs, s1) →
    ∃ φ1, φ <+: φ1 ∧ Rel K T φ1 σ H s1 ∧ RvL K φ1 H vs xs ∧ s1.env = s.env ∧ ∀ a, Mi φ1 s1.env σ a → Mi φ s.env σ a ∨ TmL rs xs a
  | [], [], φ, s, s1, vs, r, h, e => by
    cases e
    exact ⟨φ, List.prefix_refl _, r, .nil, rfl, fun _ z => .inl z⟩
  | .v x :: rs, y :: xs, φ, s, s1, vs, r, h, e => by
    have h' : (boxL rs s).map (fun p => (x :: p.1, p.2)) = some (vs, s1) := e
    obtain ⟨⟨us, s2⟩, e2, e3⟩ := Option.map_eq_some_iff.mp h'
    cases e3
    obtain ⟨φ1, pr, r1, rv, en, mi⟩ := boxL_ok r h.2.1 e2
    exact ⟨φ1, pr, r1, .cons (RvL.ext (show Rv K φ H x y from h.1) pr (Ext.refl (A := fun _ => False))) rv, en, fun a z => (mi a z).imp id .inr⟩
  | .l us :: rs, y :: xs, φ, s, s1, vs, r, h, e => by
    have h' : (boxL rs ⟨s.env, s.hp ++ [.lst us]⟩).map (fun p => (IV.ref s.hp.length :: p.1, p.2)) = some (vs, s1) := e
    obtain ⟨⟨ws, s2⟩, e2, e3⟩ := Option.map_eq_some_iff.mp h'
    cases e3
    obtain ⟨⟨q, ys, rfl, a1, a2, a3, a4⟩, h2, h3⟩ := h
    have rb := r.box a1 a2 a3 a4
    obtain ⟨φ1, pr, r1, rv, en, mi⟩ := boxL_ok rb (AllR.snoc h2 (boxL_noF e2) fun a e z => h3 a e z) e2
    refine ⟨φ1, pre_snoc.trans pr, r1, .cons (.ref (pre_get pr ?_) .nil) rv, en, fun a z => ?_⟩
    · rw [← r.len]
      simp
    · rcases mi a z with z | z
      · rcases mi_snoc z with z | z
        · exact .inl z
        · exact .inr (.inl z)
      · exact .inr (.inr z)
  | .f _ :: _, _ :: _, _, _, _, _, _, _, e => by cases e
  | .z _ :: _, _ :: _, _, _, _, _, _, _, e => by cases e
  | [], _ :: _, _, _, _, _, _, h, _ => h.elim
  | _ :: _, [], _, _, _, _, _, h, _ => by cases h
/-- slot i's list becomes an object -/
theorem Rel.leak {i : Nat} {vs : List IV} (r : Rel K T φ σ H s) (e : s.env[i]? = some (some (.l vs))) : ∃ p, σ[i]? = some (some (.ref p)) ∧ Rel K T (φ ++ [p]) σ H ⟨s.env.set i (some (.v (.ref s.hp.length))), s.hp ++ [.lst vs]⟩ ∧ (∀ a, Mi (φ ++ [p]) (s.env.set i (some (.v (.ref s.hp.length)))) σ a → Mi φ s.env σ a) := by
  obtain ⟨p, xs, e1, e2, e3, e4⟩ := r.slot i _ e
  have hil : i < s.env.length := (List.getElem?_eq_some_iff.mp e).1
  have own : Own s.env σ i p := ⟨vs, e, e1⟩
  have sub : ∀ j a, Own (s.env.set i (some (.v (.ref s.hp.length)))) σ j a → j ≠ i ∧ Own s.env σ j a := fun j a ⟨us, h1, h2⟩ => by
    by_cases q : j = i
    · subst q
      rw [List.getElem?_set_self hil] at h1
      cases h1
    · rw [List.getElem?_set_ne (Ne.symm q)] at h1
      exact ⟨q, us, h1, h2⟩
  have mi : ∀ a, Mi (φ ++ [p]) (s.env.set i (some (.v (.ref s.hp.length)))) σ a → Mi φ s.env σ a := fun a m => by
    rcases mi_snoc m with m | m
    · rcases m with m | ⟨j, o⟩
      · exact .inl m
      · exact .inr ⟨j, (sub j a o).2⟩
    · rw [m]
      exact .inr ⟨i, own⟩
  refine ⟨p, e1, ?_, mi⟩
  refine ⟨List.nodup_append.mpr ⟨r.nd, by simp, fun a ha b hb => ?_⟩, by simp [r.len], fun n a o h1 h2 => ?_, fun j q h => ?_, fun j k a h1 h2 => r.inj j k a (sub j a h1).2 (sub k a h2).2, r.tab, fun b hb => ⟨(r.bor b hb).1, fun m => (r.bor b hb).2 (mi b m)⟩, by simp [r.elen]⟩
  · have e : b = p := by simpa using hb
    rw [e]
    rintro rfl
    exact e3 ha
  · by_cases q : n < φ.length
    · rw [List.getElem?_append_left q] at h1
      rw [List.getElem?_append_left (by rw [← r.len]; exact q)] at h2
      exact (r.obj n a o h1 h2).ext pre_snoc (Ext.refl (A := fun _ => False)) fun _ e => e
    · have l : n = φ.length := by
        have := (List.getElem?_eq_some_iff.mp h1).1
        simp at this
        omega
      subst l
      rw [r.len] at h2
      simp at h1 h2
      subst h1 h2
      exact .lst e2 (e4.ext pre_snoc (Ext.refl (A := fun _ => False)))
  · by_cases q' : j = i
    · subst q'
      rw [List.getElem?_set_self hil] at h
      cases h
      exact ⟨_, e1, .ref (by rw [← r.len]; simp) .nil⟩
    · rw [List.getElem?_set_ne (Ne.symm q')] at h
      have z := r.slot j q h
      cases q with
      | none => trivial
      | some q =>
        cases q with
        | v y =>
          obtain ⟨v, e1, e2⟩ := z
          exact ⟨v, e1, e2.ext pre_snoc (Ext.refl (A := fun _ => False))⟩
        | l us =>
          obtain ⟨q, ys, b1, b2, b3, b4⟩ := z
          refine ⟨q, ys, b1, b2, fun m => ?_, b4.ext pre_snoc (Ext.refl (A := fun _ => False))⟩
          rcases List.mem_append.mp m with m | m
          · exact b3 m
          · have eq : q = p := by simpa using m
            rw [eq] at b1
            exact q' (r.inj j i p ⟨us, h, b1⟩ own)
        | f us =>
          obtain ⟨q, ys, b1, b2, b3, b4⟩ := z
          exact ⟨q, ys, b1, b2, b3, b4.ext pre_snoc (Ext.refl (A := fun _ => False))⟩
        | z us =>
          obtain ⟨q, ys, b1, b2, b4⟩ := z
          exact ⟨q, ys, b1, b2, b4.ext pre_snoc (Ext.refl (A := fun _ => False))⟩
/-- slot i's list is handed on -/
theorem Rel.move {i : Nat} {vs : List IV} (r : Rel K T φ σ H s) (e : s.env[i]? = some (some (.l vs))) : ∃ v, σ[i]? = some (some v) ∧ Rel K T φ σ H ⟨s.env.set i none, s.hp⟩ ∧ Rr K T φ (s.env.set i none) σ H (.l vs) v ∧ (∀ a, Mi φ (s.env.set i none) σ a → Mi φ s.env σ a) ∧ ∀ a, Tm (.l vs) v a → Mi φ s.env σ a := by
  obtain ⟨p, xs, e1, e2, e3, e4⟩ := r.slot i _ e
  have hil : i < s.env.length := (List.getElem?_eq_some_iff.mp e).1
  have own : Own s.env σ i p := ⟨vs, e, e1⟩
  have sub : ∀ j a, Own (s.env.set i none) σ j a → j ≠ i ∧ Own s.env σ j a := fun j a ⟨us, h1, h2⟩ => by
    by_cases q : j = i
    · subst q
      rw [List.getElem?_set_self hil] at h1
      cases h1
    · rw [List.getElem?_set_ne (Ne.symm q)] at h1
      exact ⟨q, us, h1, h2⟩
  have mi : ∀ a, Mi φ (s.env.set i none) σ a → Mi φ s.env σ a := fun a m => m.imp id fun ⟨j, o⟩ => ⟨j, (sub j a o).2⟩
  refine ⟨_, e1, ⟨r.nd, r.len, r.obj, fun j q h => ?_, fun j k a h1 h2 => r.inj j k a (sub j a h1).2 (sub k a h2).2, r.tab, fun b hb => ⟨(r.bor b hb).1, fun m => (r.bor b hb).2 (mi b m)⟩, by simp [r.elen]⟩, ⟨p, xs, rfl, e2, fun m => ?_, fun m => (r.bor p m).2 (.inr ⟨i, own⟩), e4⟩, mi, fun a z => ?_⟩
  · by_cases q' : j = i
    · subst q'
      rw [List.getElem?_set_self hil] at h
      cases h
      trivial
    · rw [List.getElem?_set_ne (Ne.symm q')] at h
      exact r.slot j q h
  · rcases m with m | ⟨j, o⟩
    · exact e3 m
    · exact (sub j p o).1 (r.inj j i p (sub j p o).2 own)
  · have z' : a = p := z
    rw [z']
    exact .inr ⟨i, own⟩
end
section
variable {X : Cx} {T : Tp} {W : WX} {a b c : Expr} {es : List Expr} {oa ob oc : Opd} {os : List Opd} {pos : Pos}
theorem se_lk {i : Nat} {x : Str} (hN : X.N[i]? = some x) (hv : Vis X.env.scope x) (hd : (x == ("__debug__" : Str)) = false := by decide) (hcd : (x == ("__classdict__" : Str)) = false := by decide) : SE X T W (.Name x pos) (mLk i) :=
  PE.imp (pe_var hN hv hd hcd) fun σ H Q ⟨φ, s, rel, p⟩ => by
    unfold mLk at p
    split at p
    · rename_i y e
      obtain ⟨v, e1, e2⟩ := rel.slot i _ e
      exact ⟨v, e1, p.ret rel e2 (fun _ z => z) fun _ z => (show False from z).elim⟩
    · rename_i vs e
      obtain ⟨q, e1, r1, mi⟩ := rel.leak e
      refine ⟨_, e1, p _ H _ pre_snoc (Ext.refl.less fun a z => z.elim (mi a) fun z => z.elim) r1 (.ref (by rw [← rel.len]; simp) .nil)⟩
    · exact (show False from p).elim
theorem se_mv {i : Nat} {x : Str} (hN : X.N[i]? = some x) (hv : Vis X.env.scope x) (hd : (x == ("__debug__" : Str)) = false := by decide) (hcd : (x == ("__classdict__" : Str)) = false := by decide) : SE X T W (.Name x pos) (mMv i) :=
  PE.imp (pe_var hN hv hd hcd) fun σ H Q ⟨φ, s, rel, p⟩ => by
    unfold mMv at p
    split at p
    · rename_i y e
      obtain ⟨v, e1, e2⟩ := rel.slot i _ e
      exact ⟨v, e1, p.ret rel e2 (fun _ z => z) fun _ z => (show False from z).elim⟩
    · rename_i vs e
      obtain ⟨v, e1, r1, rr, mi, tm⟩ := rel.move e
      exact ⟨v, e1, p _ H _ (List.prefix_refl _) (Ext.refl.less fun a z => z.elim (mi a) (tm a)) r1 rr⟩
    · exact (show False from p).elim
theorem size_of {n : Nat} (h : decide (n ≤ 100000) = true) : n ≤ sizeLine := Nat.le_trans (of_decide_eq_true h) (by decide)
theorem se_tup {k : Nat} (h : SA X T W es os) : SE X T W (.Tuple es k pos) (mN os gTup) := PE.imp (pe_tup h) fun σ H Q ⟨φ, s, rel, p⟩ =>
  mN_step (fun xs H1 => xs.length ≤ sizeLine ∧ ∀ p, H1 p = none → Q (.ref p) (upd H1 p (.tup xs))) rel p fun xs H1 φ1 s1 rs A l1 l2 rel1 al hA hT hp => by
    unfold gTup at hp
    split at hp
    · rename_i vs s2 e
      split at hp
      · rename_i sz
        obtain ⟨φ2, pr, r2, rv, en, mi⟩ := boxL_ok rel1 al e
        refine ⟨by rw [← rv.length]; exact size_of sz, fun q hq => ?_⟩
        refine hp φ2 _ (.ref q) pr ((Ext.alloc (A := A) (o := .tup xs) hq).less fun a z => ?_) (r2.alloc hq) (.tup (.of upd_same) (rv.ext (List.prefix_refl _) (Ext.alloc (A := A) (o := .tup xs) hq)) .nil)
        rcases z with z | z
        · rcases mi a z with z | z
          · exact .inl (hA a z)
          · exact .inl (hT a z)
        · exact (show False from z).elim
      · exact (show False from hp).elim
    · exact (show False from hp).elim
theorem se_lst (h : SA X T W es os) : SE X T W (.List es pos) (mN os gLst) := PE.imp (pe_lst h) fun σ H Q ⟨φ, s, rel, p⟩ =>
  mN_step (fun xs H1 => xs.length ≤ sizeLine ∧ ∀ p, H1 p = none → Q (.ref p) (upd H1 p (.lst xs))) rel p fun xs H1 φ1 s1 rs A l1 l2 rel1 al hA hT hp => by
    unfold gLst at hp
    split at hp
    · rename_i vs s2 e
      split at hp
      · rename_i sz
        obtain ⟨φ2, pr, r2, rv, en, mi⟩ := boxL_ok rel1 al e
        refine ⟨by rw [← rv.length]; exact size_of sz, fun q hq => ?_⟩
        obtain ⟨f1, f2⟩ := r2.fresh hq
        refine hp φ2 _ (.ref q) pr ((Ext.alloc (A := A) (o := .lst xs) hq).less fun a z => ?_) (r2.alloc hq) ⟨q, xs, rfl, upd_same, f1, f2, rv.ext (List.prefix_refl _) (Ext.alloc (A := A) (o := .lst xs) hq)⟩
        rcases z with z | z
        · rcases mi a z with z | z
          · exact .inl (hA a z)
          · exact .inl (hT a z)
        · exact .inr z
      · exact (show False from hp).elim
    · exact (show False from hp).elim
end
end Py

set_option Elab.async false
set_option linter.all false
set_option maxRecDepth 100000
set_option maxHeartbeats 4000000
/-! P5: items, fields, slices, in a dict, is None, chains; built-in calls. -/
namespace Py
open PySem PySem.Spec PyProof.Rows L2

/-! ### the plain side -/
def gAt : G RV := fun rs s => match rs with
  | [r, .v (.int i)] => (match seqOf s r with
    | some vs => (match atI vs i with
      | some x => .ok (.v x) s
      | none => .bad)
    | none => .bad)
  | _ => .bad
/-- the sign at a place -/
def gAtS : G RV := fun rs s => match rs with
  | [.v (.str z), .v (.int i)] => (match decide (z.length ≤ 100000), atI z.cps.toList i with
    | true, some c => .ok (.v (.str ⟨#[c]⟩)) s
    | _, _ => .bad)
  | _ => .bad
/-- a field of an instance of one of these classes -/
def gFl (cs : List Str) (f : Str) : G RV := fun rs s => match rs with
  | [.v (.ref n)] => (match s.hp[n]? with
    | some (.ins c fs) => (match decide (c ∈ cs), fs.lookup f with
      | true, some x => .ok (.v x) s
      | _, _ => .bad)
    | _ => .bad)
  | _ => .bad
def cutI (vs : List IV) (lo hi : Option Int) : List IV := (vs.drop (HT.sIx vs.length 0 lo)).take (HT.sIx vs.length vs.length hi - HT.sIx vs.length 0 lo)
def fSl (r : RV) (lo hi : Option Int) (s : S) : Rs RV := match r with
  | .v (.tup vs) => .ok (.v (.tup (cutI vs lo hi))) s
  | r => (match seqOf s r with
    | some vs => .ok (.l (cutI vs lo hi)) s
    | none => .bad)
def gSl0 : G RV := fun rs s => match rs with
  | [r] => fSl r none none s
  | _ => .bad
def gSlL : G RV := fun rs s => match rs with
  | [r, .v (.int i)] => fSl r (some i) none s
  | _ => .bad
def gSlH : G RV := fun rs s => match rs with
  | [r, .v (.int i)] => fSl r none (some i) s
  | _ => .bad
def gSlB : G RV := fun rs s => match rs with
  | [r, .v (.int i), .v (.int j)] => fSl r (some i) (some j) s
  | _ => .bad
def gLen : G RV := fun rs s => match rs with
  | [.v (.str z)] => (match decide (z.length ≤ 100000) with
    | true => .ok (.v (.int z.length)) s
    | false => .bad)
  | [r] => (match seqOf s r with
    | some vs => .ok (.v (.int vs.length)) s
    | none => .bad)
  | _ => .bad
def gAbs : G RV := gI1 fun i => .int (if i < 0 then -i else i)
def gInt : G RV := fun rs s => match rs with
  | [.v (.int i)] => .ok (.v (.int i)) s
  | [.v (.bl k)] => .ok (.v (.int (if k then 1 else 0))) s
  | _ => .bad
def gTuple : G RV := fun rs s => match rs with
  | [r] => (match seqOf s r with
    | some vs => .ok (.v (.tup vs)) s
    | none => .bad)
  | _ => .bad
def gList : G RV := fun rs s => match rs with
  | [r] => (match seqOf s r with
    | some vs => .ok (.l vs) s
    | none => .bad)
  | _ => .bad
inductive Ty0 where
  | non | bool | int | str | tuple | list | dict
  deriving DecidableEq
def Ty0.nm : Ty0 → String
  | .non => "NoneType"
  | .bool => "bool"
  | .int => "int"
  | .str => "str"
  | .tuple => "tuple"
  | .list => "list"
  | .dict => "dict"
def isa : Ty0 → Ty0 → Bool
  | .non, .non => true
  | .bool, .bool => true
  | .bool, .int => true
  | .int, .int => true
  | .str, .str => true
  | .tuple, .tuple => true
  | .list, .list => true
  | .dict, .dict => true
  | _, _ => false
theorem isa_ok (a b : Ty0) : kitB a.nm b.nm = some (isa a b) := by
  cases a <;> cases b <;> decide +kernel
def tyV0 (s : S) : RV → Option (Sum Ty0 Str)
  | .v .non => some (.inl .non)
  | .v (.bl _) => some (.inl .bool)
  | .v (.int _) => some (.inl .int)
  | .v (.str _) => some (.inl .str)
  | .v (.tup _) => some (.inl .tuple)
  | .v (.ref n) => (match s.hp[n]? with
    | some (.lst _) => some (.inl .list)
    | some (.dct _) => some (.inl .dict)
    | some (.ins c _) => some (.inr c)
    | none => none)
  | .v (.hnd _) => none
  | .l _ => some (.inl .list)
  | .f _ => some (.inl .list)
  | .z _ => some (.inl .list)
/-- isinstance with a built-in class; cs: the own classes that are no such -/
def gIsT (cs : List Str) (t : Ty0) : G RV := fun rs s => match rs with
  | [r] => (match tyV0 s r with
    | some (.inl u) => .ok (.v (.bl (isa u t))) s
    | some (.inr c) => (match decide (c ∈ cs) with
      | true => .ok (.v (.bl false)) s
      | false => .bad)
    | none => .bad)
  | _ => .bad
def gIsT2 (cs : List Str) (t t' : Ty0) : G RV := fun rs s => match rs with
  | [r] => (match tyV0 s r with
    | some (.inl u) => .ok (.v (.bl (isa u t || isa u t'))) s
    | some (.inr c) => (match decide (c ∈ cs) with
      | true => .ok (.v (.bl false)) s
      | false => .bad)
    | none => .bad)
  | _ => .bad
/-- isinstance with an own class: what is asked of each class is told -/
def gIsO (sub : List (Str × Bool)) : G RV := fun rs s => match rs with
  | [r] => (match tyV0 s r with
    | some (.inl _) => .ok (.v (.bl false)) s
    | some (.inr c) => (match sub.lookup c with
      | some b => .ok (.v (.bl b)) s
      | none => .bad)
    | none => .bad)
  | _ => .bad

section
variable {K : PySem.W.Frag} {T : Tp} {φ : List Addr} {σ : L2.St} {H : Hp} {s : S}
theorem seq_ok {r : RV} {x : V} {vs : List IV} (rel : Rel K T φ σ H s) (h : Rr K T φ s.env σ H r x) (e : seqOf s r = some vs) : ∃ p xs, x = .ref p ∧ RvL K φ H vs xs ∧ (((∃ us, r = .v (.tup us)) ∧ SqT K H p xs) ∨ ((∀ us, r ≠ .v (.tup us)) ∧ SqL K H p xs ∧ (H p = some (.lst xs) ∨ Fz K H p xs))) := by
  unfold seqOf at e
  split at e
  · cases e
    obtain ⟨p, xs, rfl, h1, h2⟩ := Rv.tup_inv h
    exact ⟨p, xs, rfl, h2, .inl ⟨⟨_, rfl⟩, h1⟩⟩
  · rename_i n
    obtain ⟨p, rfl, hp⟩ := Rv.ref_inv h
    split at e
    · rename_i us hn
      cases e
      cases rel.obj n p _ hp hn with
      | lst h1 h2 => exact ⟨p, _, rfl, h2, .inr ⟨fun us z => (by cases z), .of h1, .inl h1⟩⟩
    · cases e
  · cases e
    obtain ⟨p, xs, rfl, h1, h2, _, h3⟩ := h
    exact ⟨p, xs, rfl, h3, .inr ⟨fun us z => (by cases z), .of h1, .inl h1⟩⟩
  · cases e
    obtain ⟨p, xs, rfl, h1, h2, h3⟩ := h
    exact ⟨p, xs, rfl, h3, .inr ⟨fun us z => (by cases z), .of h1, .inl h1⟩⟩
  · cases e
    obtain ⟨p, xs, rfl, h1, h3⟩ := h
    exact ⟨p, xs, rfl, h3, .inr ⟨fun us z => (by cases z), h1.seq, .inr h1⟩⟩
  · cases e
theorem atI_ok {vs : List IV} {xs : List V} {i : Int} {x : IV} (h : RvL K φ H vs xs) (e : atI vs i = some x) : ∃ v, atI xs i = some v ∧ Rv K φ H x v := by
  unfold atI at e ⊢
  rw [← h.length]
  cases q : ixN vs.length i with
  | none =>
    rw [q] at e
    cases e
  | some j =>
    rw [q] at e
    exact h.get e
theorem RvL.cut {vs : List IV} {xs : List V} (h : RvL K φ H vs xs) (lo hi : Option Int) : RvL K φ H (cutI vs lo hi) (cutV xs lo hi) := by
  unfold cutI cutV
  rw [← h.length]
  exact (h.drop _).take _
theorem lookup_rv : ∀ {fs : List (Str × IV)} {ys : List (Str × V)} {f : Str} {x : IV}, fs.map (·.1) = ys.map (·.1) → RvL K φ H (fs.map (·.2)) (ys.map (·.2)) → fs.lookup f = some x → ∃ v, ys.lookup f = some v ∧ Rv K φ H x v
  | [], [], f, x, _, _, e => by cases e
  | (g, y) :: fs, (g', v) :: ys, f, x, k, r, e => by
    simp only [List.map_cons, List.cons.injEq] at k
    obtain ⟨k1, k2⟩ := k
    subst k1
    have r0 : RvL K φ H (y :: fs.map (·.2)) (v :: ys.map (·.2)) := r
    have r1 : Rv K φ H y v := r0.head
    have r2 : RvL K φ H (fs.map (·.2)) (ys.map (·.2)) := r0.tail
    simp only [List.lookup] at e ⊢
    split at e
    · cases e
      exact ⟨v, rfl, r1⟩
    · exact lookup_rv k2 r2 e
  | [], _ :: _, _, _, k, _, _ => by cases k
  | _ :: _, [], _, _, k, _, _ => by cases k
theorem ty_ok {r : RV} {x : V} (rel : Rel K T φ σ H s) (h : Rr K T φ s.env σ H r x) : (∀ t, tyV0 s r = some (.inl t) → TyX K H x (.type t.nm)) ∧ ∀ c, tyV0 s r = some (.inr c) → ∃ a dx ys, x = .ref a ∧ H a = some (.ins (cA K c) dx ys) := by
  have tl : ∀ {p : Addr} {xs : List V}, (H p = some (.lst xs) ∨ Fz K H p xs) → TyX K H (.ref p) (.type Ty0.list.nm) := fun {p xs} z => by
    rcases z with z | z | ⟨o, z⟩
    · exact .base (.lst z)
    · obtain ⟨o, its, n, h1, h2, _⟩ := z
      exact .kList h1 h2
    · exact .base (.frz z)
  refine ⟨fun t e => ?_, fun c e => ?_⟩
  · unfold tyV0 at e
    split at e
    · cases e
      rw [Rv.non_inv h]
      exact .base .non
    · cases e
      rw [Rv.bl_inv h]
      exact .base (.bl _)
    · cases e
      rw [Rv.int_inv h]
      exact .base (.int _)
    · cases e
      rw [Rv.str_inv h]
      exact .base (.str _)
    · cases e
      obtain ⟨p, ys, rfl, h1, h2⟩ := Rv.tup_inv h
      rcases h1 with (h1 | ⟨o, h1⟩) | ⟨o, its, n, h1, h3, _⟩
      · exact .base (.tup h1)
      · exact .fTuple h1
      · exact .kTuple h1 h3
    · rename_i n
      obtain ⟨p, rfl, hp⟩ := Rv.ref_inv h
      split at e
      · rename_i us hn
        cases e
        cases rel.obj n p _ hp hn with
        | lst h1 h2 => exact .base (.lst h1)
      · rename_i us hn
        cases e
        cases rel.obj n p _ hp hn with
        | dct h1 h2 h3 => exact .base (.dK h1)
      · cases e
      · cases e
    · cases e
    · cases e
      obtain ⟨p, xs, rfl, h1, h2, _, h3⟩ := h
      exact tl (.inl h1)
    · cases e
      obtain ⟨p, xs, rfl, h1, h2, h3⟩ := h
      exact tl (.inl h1)
    · cases e
      obtain ⟨p, xs, rfl, h1, h3⟩ := h
      exact tl (.inr h1)
  · unfold tyV0 at e
    split at e <;> try (cases e; done)
    rename_i n
    obtain ⟨p, rfl, hp⟩ := Rv.ref_inv h
    split at e <;> try (cases e; done)
    rename_i fs hn
    cases e
    cases rel.obj n p _ hp hn with
    | ins h1 h2 h3 => exact ⟨p, _, _, rfl, h1⟩
end

section
variable {X : Cx} {T : Tp} {W : WX} {a b c : Expr} {es : List Expr} {oa ob oc : Opd} {os : List Opd} {pos p2 p3 : Pos}
/-- a call of a built-in on operands -/
theorem opN {r : List V → Hp → VK → Prop} {g : G RV} {σ : L2.St} {H : Hp} {Q : VK} (h : tE X.K T W (mN os g) σ H Q)
    (hq : ∀ xs H1 φ1 s1 rs A, rs.length = os.length → Rel X.K T φ1 σ H1 s1 → AllR X.K T φ1 s1.env σ H1 rs xs → (∀ p, Mi φ1 s1.env σ p → A p) → (∀ p, TmL rs xs p → A p) → Post X.K T W (Rr X.K T) Tm A φ1 σ H1 (g rs s1) Q → r xs H1 Q) : tCB r (tOs X.K T W os) σ H Q := by
  obtain ⟨φ, s, rel, p⟩ := h
  exact mN_step (fun xs H1 => r xs H1 Q) rel p fun xs H1 φ1 s1 rs A l1 l2 rel1 al hA hT hp => hq xs H1 φ1 s1 rs A l1 rel1 al hA hT hp
theorem op1' {g : G RV} {σ : L2.St} {H : Hp} {Q : VK} (Q' : V → Hp → Prop) (h : tE X.K T W (mN [oa] g) σ H Q)
    (hq : ∀ x H1 φ1 s1 r1 A, Rel X.K T φ1 σ H1 s1 → Rr X.K T φ1 s1.env σ H1 r1 x → (∀ p, Mi φ1 s1.env σ p → A p) → (∀ p, Tm r1 x p → A p) → Post X.K T W (Rr X.K T) Tm A φ1 σ H1 (g [r1] s1) Q → Q' x H1) :
    tO X.K T W oa σ H Q' := op1 (r := fun x H1 _ => Q' x H1) h hq
theorem opN1 {r : List V → Hp → VK → Prop} {g : G RV} {σ : L2.St} {H : Hp} {Q : VK} (h : tE X.K T W (mN [oa] g) σ H Q)
    (hq : ∀ x H1 φ1 s1 r1 A, Rel X.K T φ1 σ H1 s1 → Rr X.K T φ1 s1.env σ H1 r1 x → (∀ p, Mi φ1 s1.env σ p → A p) → (∀ p, Tm r1 x p → A p) → Post X.K T W (Rr X.K T) Tm A φ1 σ H1 (g [r1] s1) Q → r [x] H1 Q) : tCB r (tOs X.K T W [oa]) σ H Q :=
  op1' (fun x H1 => r [x] H1 Q) h hq
theorem se_at (hs : PlainIx b) (ha : SO X T W a oa) (hb : SO X T W b ob) : SE X T W (.Subscript a b pos) (mN [oa, ob] gAt) :=
  PE.imp (pe_ix ix_seq ha hb hs) fun σ H Q h => op2 h fun x y H1 φ1 s1 r1 r2 A rel h1 h2 _ hA _ _ hp => by
    unfold gAt at hp
    split at hp
    · rename_i r i e
      injection e with e1 e2
      injection e2 with e2 _
      subst e1 e2
      split at hp
      · rename_i vs hv
        split at hp
        · rename_i z hz
          obtain ⟨p, xs, rfl, h3, h4⟩ := seq_ok rel h1 hv
          obtain ⟨v, h5, h6⟩ := atI_ok h3 hz
          have q := hp.ret (v := v) rel h6 hA fun _ z => (show False from z).elim
          rcases h4 with ⟨_, h4⟩ | ⟨_, h4, _⟩
          · exact .inr (.inl ⟨p, xs, i, v, rfl, Rv.int_inv h2, h4, h5, q⟩)
          · exact .inl ⟨p, xs, i, v, rfl, Rv.int_inv h2, h4, h5, q⟩
        · exact (show False from hp).elim
      · exact (show False from hp).elim
    · exact (show False from hp).elim
theorem se_atS (hs : PlainIx b) (ha : SO X T W a oa) (hb : SO X T W b ob) : SE X T W (.Subscript a b pos) (mN [oa, ob] gAtS) :=
  PE.imp (pe_ix ix_str ha hb hs) fun σ H Q h => op2 h fun x y H1 φ1 s1 r1 r2 A rel h1 h2 _ hA _ _ hp => by
    unfold gAtS at hp
    split at hp
    · rename_i z i e
      injection e with e1 e2
      injection e2 with e2 _
      subst e1 e2
      split at hp
      · rename_i c hz hc
        exact ⟨z, i, c, Rv.str_inv h1, Rv.int_inv h2, size_of hz, hc, hp.ret rel Rv.str hA fun _ z => (show False from z).elim⟩
      · exact (show False from hp).elim
    · exact (show False from hp).elim
theorem se_fl {cs : List Str} {f : Str} (hc : ∀ c ∈ cs, Cls X.K (cA X.K c) ∧ NoAttr X.K (cA X.K c) f) (hb : attributeBase a f X.env (eval a X.env) = eval a X.env) (ha : SO X T W a oa) : SE X T W (.Attribute a f pos) (mN [oa] (gFl cs f)) :=
  PE.imp (pe_fld ha hb) fun σ H Q h => op1' _ h fun x H1 φ1 s1 r1 A rel h1 hA _ hp => by
    unfold gFl at hp
    split at hp
    · rename_i n e
      injection e with e1 _
      subst e1
      split at hp
      · rename_i c fs hn
        split at hp
        · rename_i z hm hl
          obtain ⟨p, rfl, hpp⟩ := Rv.ref_inv h1
          cases rel.obj n p _ hpp hn with
          | ins h3 h4 h5 =>
            obtain ⟨v, h6, h7⟩ := lookup_rv h4 h5 hl
            obtain ⟨c1, c2⟩ := hc c (of_decide_eq_true hm)
            exact ⟨p, _, _, _, v, rfl, h3, c1, c2, h6, hp.ret rel h7 hA fun _ z => (show False from z).elim⟩
        · exact (show False from hp).elim
      · exact (show False from hp).elim
    · exact (show False from hp).elim
/-! ### slices -/
abbrev rSlS (K : PySem.W.Frag) : V → Option Int → Option Int → Hp → VK → Prop := fun x lo hi H Q => rSlL K x lo hi H Q ∨ rSlA K x lo hi H Q
theorem sl_seq : SlR X (rSlS X.K) := SlR.or sl_list sl_tupA
theorem fin_sl {φ : List Addr} {σ : L2.St} {H : Hp} {s : S} {A : Addr → Prop} {Q : VK} {r : RV} {x : V} {lo hi : Option Int} (rel : Rel X.K T φ σ H s) (h1 : Rr X.K T φ s.env σ H r x) (hA : ∀ p, Mi φ s.env σ p → A p)
    (hp : Post X.K T W (Rr X.K T) Tm A φ σ H (fSl r lo hi s) Q) : rSlS X.K x lo hi H Q := by
  unfold fSl at hp
  split at hp
  · rename_i vs
    obtain ⟨p, xs, rfl, h3, h4⟩ := Rv.tup_inv h1
    refine .inr ⟨p, xs, rfl, h3, fun ⟨w1, w2⟩ => ?_, fun _ q hq => ?_⟩
    · have e : cutV xs lo hi = xs := by
        unfold cutV
        rw [w1, w2]
        simp
      have z := h4.cut lo hi
      rw [e] at z
      exact hp.ret rel (.tup h3 z .nil) hA fun _ z => (show False from z).elim
    · exact hp.retNew rel hq (.tup (.of upd_same) ((h4.cut lo hi).ext (List.prefix_refl _) (Ext.alloc (A := A) (o := .tup (cutV xs lo hi)) hq)) .nil) hA
  · rename_i r hr
    split at hp
    · rename_i vs hv
      obtain ⟨p, xs, rfl, h3, h4⟩ := seq_ok rel h1 hv
      rcases h4 with ⟨⟨us, h4⟩, _⟩ | ⟨_, h4, _⟩
      · exact absurd h4 (hr us)
      · refine .inl ⟨p, xs, rfl, h4, fun q hq => ?_⟩
        obtain ⟨f1, f2⟩ := rel.fresh hq
        exact hp.retNew rel hq ⟨q, _, rfl, upd_same, f1, f2, (h3.cut lo hi).ext (List.prefix_refl _) (Ext.alloc (A := A) (o := .lst (cutV xs lo hi)) hq)⟩ hA
    · exact (show False from hp).elim
theorem se_sl0 (ha : SO X T W a oa) : SE X T W (.Subscript a (.Slice none none none p2) pos) (mN [oa] gSl0) :=
  PE.imp (pe_slice sl_seq ha po_none po_none) fun σ H Q h => op1' (fun x H1 => rSlS X.K x none none H1 Q) h fun x H1 φ1 s1 r1 A rel h1 hA _ hp => fin_sl rel h1 hA hp
theorem se_slH (ha : SO X T W a oa) (hb : SO X T W b ob) : SE X T W (.Subscript a (.Slice none (some b) none p2) pos) (mN [oa, ob] gSlH) :=
  PE.imp (pe_slice sl_seq ha po_none (po_some hb)) fun σ H Q h => op2 (r := fun x y H1 Q => ∃ i, y = .int i ∧ rSlS X.K x none (some i) H1 Q) h fun x y H1 φ1 s1 r1 r2 A rel h1 h2 _ hA _ _ hp => by
    unfold gSlH at hp
    split at hp
    · rename_i r i e
      injection e with e1 e2
      injection e2 with e2 _
      subst e1 e2
      exact ⟨i, Rv.int_inv h2, fin_sl rel h1 hA hp⟩
    · exact (show False from hp).elim
theorem se_slL (ha : SO X T W a oa) (hb : SO X T W b ob) : SE X T W (.Subscript a (.Slice (some b) none none p2) pos) (mN [oa, ob] gSlL) :=
  PE.imp (pe_slice sl_seq ha (po_some hb) po_none) fun σ H Q h => op2 (r := fun x y H1 Q => ∃ i, y = .int i ∧ rSlS X.K x (some i) none H1 Q) h fun x y H1 φ1 s1 r1 r2 A rel h1 h2 _ hA _ _ hp => by
    unfold gSlL at hp
    split at hp
    · rename_i r i e
      injection e with e1 e2
      injection e2 with e2 _
      subst e1 e2
      exact ⟨i, Rv.int_inv h2, fin_sl rel h1 hA hp⟩
    · exact (show False from hp).elim
/-! ### is None -/
theorem isNon_ok {φ : List Addr} {H : Hp} {z : IV} {x : V} (h : Rv X.K φ H z x) : decide (x = .non) = isNon z := by
  cases z with
  | non => rw [Rv.non_inv h]; rfl
  | bl k => rw [Rv.bl_inv h]; rfl
  | int k => rw [Rv.int_inv h]; rfl
  | str k => rw [Rv.str_inv h]; rfl
  | tup us =>
    obtain ⟨p, ys, rfl, _⟩ := Rv.tup_inv h
    rfl
  | ref n =>
    obtain ⟨p, rfl, _⟩ := Rv.ref_inv h
    rfl
  | hnd a => rw [Rv.hnd_inv h]; rfl
theorem i_isN {σ : L2.St} {H : Hp} {Q : VK} (h : tE X.K T W (mN [oa] (gIsN false)) σ H Q) : tIsN (tO X.K T W oa) σ H Q := op1' (fun x H1 => Q (.bl (decide (x = .non))) H1) h fun x H1 φ1 s1 r1 A rel h1 hA _ hp => by
  unfold gIsN at hp
  split at hp
  · rename_i z e
    injection e with e1 _
    subst e1
    rw [isNon_ok h1]
    exact hp.ret rel Rv.bl hA fun _ z => (show False from z).elim
  · exact (show False from hp).elim
theorem i_notN {σ : L2.St} {H : Hp} {Q : VK} (h : tE X.K T W (mN [oa] (gIsN true)) σ H Q) : tNotN (tO X.K T W oa) σ H Q := op1' (fun x H1 => Q (.bl (!decide (x = .non))) H1) h fun x H1 φ1 s1 r1 A rel h1 hA _ hp => by
  unfold gIsN at hp
  split at hp
  · rename_i z e
    injection e with e1 _
    subst e1
    rw [isNon_ok h1]
    exact hp.ret rel Rv.bl hA fun _ z => (show False from z).elim
  · exact (show False from hp).elim
theorem se_isN {j} (ha : SO X T W a oa) : SE X T W (.Compare a [.Is] [.Constant .none j p2] pos) (mN [oa] (gIsN false)) := PE.imp (pe_cmp (pc_isN ha)) fun _ _ _ => i_isN
theorem st_isN {j} (ha : SO X T W a oa) : ST X T W (.Compare a [.Is] [.Constant .none j p2] pos) (mTest (mN [oa] (gIsN false))) := PT.imp (pt_cmp (pc_isN ha)) fun _ _ _ h => i_isN (test_of h)
theorem se_notN {j} (ha : SO X T W a oa) : SE X T W (.Compare a [.IsNot] [.Constant .none j p2] pos) (mN [oa] (gIsN true)) := PE.imp (pe_cmp (pc_notN ha)) fun _ _ _ => i_notN
theorem st_notN {j} (ha : SO X T W a oa) : ST X T W (.Compare a [.IsNot] [.Constant .none j p2] pos) (mTest (mN [oa] (gIsN true))) := PT.imp (pt_cmp (pc_notN ha)) fun _ _ _ h => i_notN (test_of h)
end
end Py

set_option Elab.async false
set_option linter.all false
set_option maxRecDepth 100000
set_option maxHeartbeats 4000000
/-! P6: built-in calls: len, abs, int, tuple, list, isinstance, all, any; tuples and lists put together; in a dict; chains. -/
namespace Py
open PySem PySem.Spec PyProof.Rows L2

/-! ### the plain side -/
def blsOf : List IV → Option (List Bool)
  | [] => some []
  | .bl b :: vs => (match blsOf vs with
    | some bs => some (b :: bs)
    | none => none)
  | _ :: _ => none
def gAll : G RV := fun rs s => match rs with
  | [r] => (match seqOf s r with
    | some vs => (match blsOf vs, r with
      | some _, .v (.tup _) => .bad
      | some bs, _ => .ok (.v (.bl (bs.all id))) s
      | none, _ => .bad)
    | none => .bad)
  | _ => .bad
def gAny : G RV := fun rs s => match rs with
  | [r] => (match seqOf s r with
    | some vs => (match blsOf vs, r with
      | some _, .v (.tup _) => .bad
      | some bs, _ => .ok (.v (.bl (bs.any id))) s
      | none, _ => .bad)
    | none => .bad)
  | _ => .bad
/-- t + u of tuples -/
def gCatT : G RV := fun rs s => match rs with
  | [.v (.tup vs), .v (.tup us)] => (match decide (vs.length + us.length ≤ 100000) with
    | true => .ok (.v (.tup (vs ++ us))) s
    | false => .bad)
  | _ => .bad
/-- a list that may be put together -/
def lstOf (s : S) : RV → Option (List IV)
  | .v (.ref n) => (match s.hp[n]? with
    | some (.lst vs) => some vs
    | _ => none)
  | .l vs => some vs
  | .f vs => some vs
  | _ => none
def gCatL : G RV := fun rs s => match rs with
  | [a, b] => (match lstOf s a, lstOf s b with
    | some vs, some us => (match decide (vs.length + us.length ≤ 100000) with
      | true => .ok (.l (vs ++ us)) s
      | false => .bad)
    | _, _ => .bad)
  | _ => .bad
def gRep : G RV := fun rs s => match rs with
  | [a, .v (.int k)] => (match lstOf s a with
    | some vs => (match decide (-(2 ^ 63) ≤ k) && decide (k < 2 ^ 63) && decide (vs.length * k.toNat ≤ 100000) with
      | true => .ok (.l (List.replicate k.toNat vs).flatten) s
      | false => .bad)
    | none => .bad)
  | _ => .bad
def gRng1 : G RV := fun rs s => match rs with
  | [.v (.int n)] => (match decide (0 ≤ n) && decide (n ≤ 100000) with
    | true => .ok (.l ((List.range n.toNat).map fun (i : Nat) => IV.int (i : Int))) s
    | false => .bad)
  | _ => .bad
/-- a op b op' c of ints -/
def mChain (f f' : Int → Int → Bool) (oa ob oc : Opd) : M RV := fun s => (oa.run s).bind fun pa s1 => (ob.run s1).bind fun pb s2 => match rd s2.env pa, rd s2.env pb with
  | some (.v (.int i)), some (.v (.int j)) => (match f i j with
    | true => (oc.run s2).bind fun pc s3 => (match rd s3.env pc with
      | some (.v (.int k)) => .ok (.v (.bl (f' j k))) s3
      | _ => .bad)
    | false => .ok (.v (.bl false)) s2)
  | _, _ => .bad

section
variable {K : PySem.W.Frag} {T : Tp} {φ : List Addr} {σ : L2.St} {H : Hp} {s : S}
theorem bls_ok : ∀ {vs : List IV} {xs : List V} {bs : List Bool}, RvL K φ H vs xs → blsOf vs = some bs → xs = bs.map V.bl
  | [], xs, bs, h, e => by
    cases e
    exact h.inv_nil
  | .bl b :: vs, xs, bs, h, e => by
    obtain ⟨v, ys, rfl, h1, h2⟩ := h.inv_cons
    unfold blsOf at e
    split at e
    · rename_i cs hc
      cases e
      rw [Rv.bl_inv h1, bls_ok h2 hc]
      rfl
    · cases e
  | .non :: _, _, _, _, e => by cases e
  | .int _ :: _, _, _, _, e => by cases e
  | .str _ :: _, _, _, _, e => by cases e
  | .tup _ :: _, _, _, _, e => by cases e
  | .ref _ :: _, _, _, _, e => by cases e
theorem lst_ok {r : RV} {x : V} {vs : List IV} (rel : Rel K T φ σ H s) (h : Rr K T φ s.env σ H r x) (e : lstOf s r = some vs) : ∃ p xs, x = .ref p ∧ RvL K φ H vs xs ∧ H p = some (.lst xs) := by
  unfold lstOf at e
  split at e
  · rename_i n
    obtain ⟨p, rfl, hp⟩ := Rv.ref_inv h
    split at e
    · rename_i us hn
      cases e
      cases rel.obj n p _ hp hn with
      | lst h1 h2 => exact ⟨p, _, rfl, h2, h1⟩
    · cases e
  · cases e
    obtain ⟨p, xs, rfl, h1, h2, _, h3⟩ := h
    exact ⟨p, xs, rfl, h3, h1⟩
  · cases e
    obtain ⟨p, xs, rfl, h1, h2, h3⟩ := h
    exact ⟨p, xs, rfl, h3, h1⟩
  · cases e
theorem RvL.rep {vs : List IV} {xs : List V} (h : RvL K φ H vs xs) : ∀ k : Nat, RvL K φ H (List.replicate k vs).flatten (List.replicate k xs).flatten
  | 0 => .nil
  | k + 1 => by
    rw [List.replicate_succ, List.replicate_succ, List.flatten_cons, List.flatten_cons]
    exact h.append (RvL.rep h k)
theorem RvL.ints : ∀ ns : List Int, RvL K φ H (ns.map IV.int) (ns.map V.int)
  | [] => .nil
  | _ :: ns => .lit rfl (RvL.ints ns)
end
section
variable {X : Cx} {T : Tp} {W : WX} {a b c : Expr} {es : List Expr} {oa ob oc : Opd} {os : List Opd} {pos p p2 p3 : Pos}
theorem se_len (hg : Gl X "len") (hm : X.mg "len" = none) (ha : SA X T W [a] [oa]) (he : starEach [a] X.env = (false, eval a X.env) :: starEach [] X.env := by rfl) : SE X T W (.Call (.Name "len" p) [a] [] pos) (mN [oa] gLen) :=
  PE.imp (pe_callB call_len hg hm boot_len ha (he := he)) fun σ H Q h => opN1 h fun x H1 φ1 s1 r1 A rel h1 hA _ hp => by
    unfold gLen at hp
    split at hp
    · rename_i z e
      injection e with e1 _
      subst e1
      split at hp
      · rename_i sz
        exact ⟨x, z.length, rfl, by rw [Rv.str_inv h1]; exact ⟨size_of sz, rfl⟩, hp.ret rel Rv.int hA fun _ z => (show False from z).elim⟩
      · exact (show False from hp).elim
    · rename_i r hr e
      injection e with e1 _
      subst e1
      split at hp
      · rename_i vs hv
        obtain ⟨p, xs, rfl, h3, h4⟩ := seq_ok rel h1 hv
        refine ⟨_, vs.length, rfl, ?_, hp.ret rel Rv.int hA fun _ z => (show False from z).elim⟩
        rcases h4 with ⟨_, h4⟩ | ⟨_, h4, _⟩
        · exact .inr ⟨xs, h4, h3.length⟩
        · exact .inl ⟨xs, h4, h3.length⟩
      · exact (show False from hp).elim
    · exact (show False from hp).elim
theorem se_abs (hg : Gl X "abs") (hm : X.mg "abs" = none) (ha : SA X T W [a] [oa]) (he : starEach [a] X.env = (false, eval a X.env) :: starEach [] X.env := by rfl) : SE X T W (.Call (.Name "abs" p) [a] [] pos) (mN [oa] gAbs) :=
  PE.imp (pe_callB call_abs hg hm (by decide +kernel) ha (he := he)) fun σ H Q h => opN1 h fun x H1 φ1 s1 r1 A rel h1 hA _ hp => by
    unfold gAbs gI1 at hp
    split at hp
    · rename_i i e
      injection e with e1 _
      subst e1
      exact ⟨i, by rw [Rv.int_inv h1], hp.ret rel Rv.int hA fun _ z => (show False from z).elim⟩
    · exact (show False from hp).elim
theorem se_int1 (hg : Gl X "int") (hm : X.mg "int" = none) (ha : SA X T W [a] [oa]) (he : starEach [a] X.env = (false, eval a X.env) :: starEach [] X.env := by rfl) : SE X T W (.Call (.Name "int" p) [a] [] pos) (mN [oa] gInt) :=
  PE.imp (pe_callTy call_int1 hg hm (by decide +kernel) ha (he := he)) fun σ H Q h => opN1 h fun x H1 φ1 s1 r1 A rel h1 hA _ hp => by
    unfold gInt at hp
    split at hp
    · rename_i i e
      injection e with e1 _
      subst e1
      exact .inl ⟨i, by rw [Rv.int_inv h1], hp.ret rel Rv.int hA fun _ z => (show False from z).elim⟩
    · rename_i i e
      injection e with e1 _
      subst e1
      exact .inr ⟨i, by rw [Rv.bl_inv h1], hp.ret rel Rv.int hA fun _ z => (show False from z).elim⟩
    · exact (show False from hp).elim
theorem se_tuple (hg : Gl X "tuple") (hm : X.mg "tuple" = none) (ha : SA X T W [a] [oa]) (he : starEach [a] X.env = (false, eval a X.env) :: starEach [] X.env := by rfl) : SE X T W (.Call (.Name "tuple" p) [a] [] pos) (mN [oa] gTuple) :=
  PE.imp (pe_callTy call_tuple_of hg hm (by decide +kernel) ha (he := he)) fun σ H Q h => opN1 h fun x H1 φ1 s1 r1 A rel h1 hA _ hp => by
    unfold gTuple at hp
    dsimp only at hp
    split at hp
    · rename_i vs hv
      obtain ⟨p, xs, rfl, h3, h4⟩ := seq_ok rel h1 hv
      rcases h4 with ⟨_, h4⟩ | ⟨_, h4, _⟩
      · exact ⟨p, xs, rfl, .inr ⟨h4, hp.ret rel (.tup h4 h3 .nil) hA fun _ z => (show False from z).elim⟩⟩
      · exact ⟨p, xs, rfl, .inl ⟨h4, fun q hq => hp.retNew rel hq (.tup (.of upd_same) (h3.ext (List.prefix_refl _) (Ext.alloc (A := A) (o := .tup xs) hq)) .nil) hA⟩⟩
    · exact (show False from hp).elim
theorem se_list (hg : Gl X "list") (hm : X.mg "list" = none) (ha : SA X T W [a] [oa]) (he : starEach [a] X.env = (false, eval a X.env) :: starEach [] X.env := by rfl) : SE X T W (.Call (.Name "list" p) [a] [] pos) (mN [oa] gList) :=
  PE.imp (pe_callTy call_list_of hg hm (by decide +kernel) ha (he := he)) fun σ H Q h => opN1 h fun x H1 φ1 s1 r1 A rel h1 hA _ hp => by
    unfold gList at hp
    dsimp only at hp
    split at hp
    · rename_i vs hv
      obtain ⟨p, xs, rfl, h3, h4⟩ := seq_ok rel h1 hv
      refine ⟨p, xs, rfl, ?_, fun q hq => ?_⟩
      · rcases h4 with ⟨_, h4⟩ | ⟨_, h4, _⟩
        · exact .inr h4
        · exact .inl h4
      · obtain ⟨f1, f2⟩ := rel.fresh hq
        exact hp.retNew rel hq ⟨q, _, rfl, upd_same, f1, f2, h3.ext (List.prefix_refl _) (Ext.alloc (A := A) (o := .lst xs) hq)⟩ hA
    · exact (show False from hp).elim
/-! ### list(range(n)) -/
theorem cr_range1 : CallR X (.type "range") (fun vs H Q => ∃ j, vs = [V.int j] ∧ ∀ p, H p = none → Q (.ref p) (upd H p (.rng 0 j))) := by
  intro pins s σ H xs us Q I r h
  obtain ⟨j, rfl, q⟩ := h
  obtain ⟨u, rfl, t, rfl⟩ := vals1 r
  exact call_range_1 ⟨.ref s.heap.objs.size, upd H s.heap.objs.size (.rng 0 j), I.laid (fun b o e => Heap.get?_push_of_some _ e) (Nat.le_refl _) ⟨_, _, _, Heap.get?_push_size s.heap rfl⟩, rfl, q _ (I.hok.fresh (Nat.le_refl _))⟩
theorem vals_of {f : Nat → V} {P : Nat → Value → Prop} : ∀ (its : List Value) (n k : Nat), its.length = n → (∀ i, i < n → ∃ v, its[i]? = some v ∧ P (k + i) v) → (∀ i v, P i v → RelV (f i) v) → Vals ((List.range' k n).map f) its
  | [], 0, _, _, _, _ => .nil
  | v :: its, n + 1, k, hl, h, hp => by
    rw [List.range'_succ, List.map_cons]
    obtain ⟨w, e, hw⟩ := h 0 (by omega)
    have e' : v = w := by simpa using e
    subst e'
    refine .cons (hp _ _ hw) (vals_of its n (k + 1) (by simpa using hl) (fun i hi => ?_) hp)
    obtain ⟨w, e, hw⟩ := h (i + 1) (by omega)
    exact ⟨w, by simpa using e, by rw [show k + 1 + i = k + (i + 1) by omega]; exact hw⟩
  | [], _ + 1, _, hl, _, _ => by cases hl
  | _ :: _, 0, _, hl, _, _ => by cases hl
theorem cr_listRng (hc : X.calm = true) : CallR X (.type "list") (fun vs H Q => ∃ a n, vs = [V.ref a] ∧ H a = some (.rng 0 n) ∧ 0 ≤ n ∧ n ≤ 100000 ∧ ∀ p, H p = none → Q (.ref p) (upd H p (.lst ((List.range n.toNat).map fun (i : Nat) => V.int (i : Int))))) := by
  intro pins s σ H xs us Q I r h
  obtain ⟨a, n, rfl, ha, h0, h1, q⟩ := h
  obtain ⟨u, rfl, ru⟩ := vals1 r
  cases ru
  obtain ⟨t, u, v, e⟩ := (show ObjOk X.prog X.w H s.heap a (.rng 0 n) from I.hok a _ ha)
  refine PySem.call_list_range (I.ok.hd hc) e (small_one (by omega) (by omega) (by omega) (by omega)) (n := n.toNat) (by rw [rangeSize_one]; split <;> omega) (by omega) fun h' tk acc' c' k hS hacc => ?_
  have hn := I.hok.fresh (Nat.le_refl s.heap.objs.size)
  refine ⟨.ref s.heap.objs.size, _, I.laid (h' := h') (t' := tk) k (Nat.le_refl _) (o := .lst ((List.range n.toNat).map fun (i : Nat) => V.int (i : Int))) ⟨?_, acc'.toList, c', ?_, ?_⟩, rfl, q _ hn⟩
  · rw [List.length_map, List.length_range, sizeLine_eq]
    omega
  · rw [List.range_eq_range']
    exact vals_of (P := fun i v => ∃ t, v = Value.int (0 + i * 1) t) acc'.toList n.toNat 0 (by rw [Array.length_toList]; exact hacc.1) (fun i hi => ⟨acc'[i]'(by rw [hacc.1]; exact hi), by simp, by rw [Nat.zero_add]; exact hacc.2 i _ (by simp)⟩) fun i v ⟨t, z⟩ => ⟨t, by rw [z]; congr 1; omega⟩
  · rw [Array.toArray_toList]
    exact hS
theorem se_listRng {p' q' pos' : Pos} (hc : X.calm = true) (hg : Gl X "list") (hm : X.mg "list" = none) (hg' : Gl X "range") (hm' : X.mg "range" = none) (ha : SA X T W [a] [oa]) (he' : starEach [a] X.env = (false, eval a X.env) :: starEach [] X.env := by rfl)
    (he : starEach [.Call (.Name "range" p') [a] [] pos'] X.env = (false, eval (.Call (.Name "range" p') [a] [] pos') X.env) :: starEach [] X.env := by rfl) :
    SE X T W (.Call (.Name "list" p) [.Call (.Name "range" p') [a] [] pos'] [] pos) (mN [oa] gRng1) :=
  PE.imp (pe_callTy (cr_listRng hc) hg hm (by decide +kernel) (pa_cons (pe_callTy cr_range1 hg' hm' (by decide +kernel) ha (he := he')) pa_nil he) (he := he)) fun σ H Q h =>
    op1' (fun x H1 => (∃ j, [x] = [V.int j] ∧ ∀ p, H1 p = none → (∃ a n, [V.ref p] = [V.ref a] ∧ (upd H1 p (.rng 0 j)) a = some (.rng 0 n) ∧ 0 ≤ n ∧ n ≤ 100000 ∧ ∀ q, (upd H1 p (.rng 0 j)) q = none → Q (.ref q) (upd (upd H1 p (.rng 0 j)) q (.lst ((List.range n.toNat).map fun (i : Nat) => V.int (i : Int))))))) h
      fun x H1 φ1 s1 r1 A rel h1 hA _ hp => by
    unfold gRng1 at hp
    split at hp
    · rename_i j e
      injection e with e1 _
      subst e1
      split at hp
      · rename_i sz
        obtain ⟨s1, s2⟩ := Bool.and_eq_true_iff.mp sz
        refine ⟨j, by rw [Rv.int_inv h1], fun q hq => ⟨q, j, rfl, upd_same, of_decide_eq_true s1, of_decide_eq_true s2, fun q2 hq2 => ?_⟩⟩
        have rel2 := rel.alloc (o := .rng 0 j) hq
        obtain ⟨f1, f2⟩ := rel2.fresh hq2
        refine hp φ1 _ _ (List.prefix_refl _) (((Ext.alloc (A := A) (o := .rng 0 j) hq).trans (Ext.alloc hq2)).less fun a z => ?_) (rel2.alloc hq2) ⟨q2, _, rfl, upd_same, f1, f2, ?_⟩
        · rcases z with z | z
          · exact .inl (.inl (hA a z))
          · exact .inr z
        · have e1 : ((List.range j.toNat).map fun (i : Nat) => IV.int (i : Int)) = ((List.range j.toNat).map fun (i : Nat) => (i : Int)).map IV.int := by simp
          have e2 : ((List.range j.toNat).map fun (i : Nat) => V.int (i : Int)) = ((List.range j.toNat).map fun (i : Nat) => (i : Int)).map V.int := by simp
          rw [e1, e2]
          exact RvL.ints _
      · exact (show False from hp).elim
    · exact (show False from hp).elim
/-! ### all, any -/
theorem se_all (hc : X.calm = true) (hg : Gl X "all") (hm : X.mg "all" = none) (ha : SA X T W [a] [oa]) (he : starEach [a] X.env = (false, eval a X.env) :: starEach [] X.env := by rfl) : SE X T W (.Call (.Name "all" p) [a] [] pos) (mN [oa] gAll) :=
  PE.imp (pe_callB (cr_all hc) hg hm (by decide +kernel) ha (he := he)) fun σ H Q h => opN1 h fun x H1 φ1 s1 r1 A rel h1 hA hT hp => by
    unfold gAll at hp
    dsimp only at hp
    split at hp
    · rename_i vs hv
      obtain ⟨p, xs, rfl, h3, h4⟩ := seq_ok rel h1 hv
      split at hp
      · exact (show False from hp).elim
      · rename_i bs hb ht
        rcases h4 with ⟨⟨us, h4⟩, _⟩ | ⟨_, h4, _⟩
        · exact (ht us h4).elim
        · exact ⟨p, bs, rfl, by rw [← bls_ok h3 hb]; exact h4, hp.ret rel Rv.bl hA fun _ z => (show False from z).elim⟩
      · exact (show False from hp).elim
    · exact (show False from hp).elim
theorem se_any (hc : X.calm = true) (hg : Gl X "any") (hm : X.mg "any" = none) (ha : SA X T W [a] [oa]) (he : starEach [a] X.env = (false, eval a X.env) :: starEach [] X.env := by rfl) : SE X T W (.Call (.Name "any" p) [a] [] pos) (mN [oa] gAny) :=
  PE.imp (pe_callB (cr_any hc) hg hm (by decide +kernel) ha (he := he)) fun σ H Q h => opN1 h fun x H1 φ1 s1 r1 A rel h1 hA hT hp => by
    unfold gAny at hp
    dsimp only at hp
    split at hp
    · rename_i vs hv
      obtain ⟨p, xs, rfl, h3, h4⟩ := seq_ok rel h1 hv
      split at hp
      · exact (show False from hp).elim
      · rename_i bs hb ht
        rcases h4 with ⟨⟨us, h4⟩, _⟩ | ⟨_, h4, _⟩
        · exact (ht us h4).elim
        · exact ⟨p, bs, rfl, by rw [← bls_ok h3 hb]; exact h4, hp.ret rel Rv.bl hA fun _ z => (show False from z).elim⟩
      · exact (show False from hp).elim
    · exact (show False from hp).elim
/-! ### put together -/
theorem se_catT (ha : SO X T W a oa) (hb : SO X T W b ob) : SE X T W (.BinOp a .Add b pos) (mN [oa, ob] gCatT) :=
  PE.imp (pe_op op_catA ha hb) fun σ H Q h => op2 h fun x y H1 φ1 s1 r1 r2 A rel h1 h2 _ hA _ _ hp => by
    unfold gCatT at hp
    split at hp
    · rename_i vs us e
      injection e with e1 e2
      injection e2 with e2 _
      subst e1 e2
      split at hp
      · rename_i sz
        obtain ⟨p, xs, rfl, h3, h4⟩ := Rv.tup_inv h1
        obtain ⟨q, ys, rfl, h5, h6⟩ := Rv.tup_inv h2
        have l1 := h4.length
        have l2 := h6.length
        refine ⟨p, q, xs, ys, rfl, rfl, h3, h5, by have := of_decide_eq_true sz; rw [← l1, ← l2]; exact Nat.le_trans this (by decide), fun z => ?_, fun _ z => ?_, fun _ _ o ho => ?_⟩
        · subst z
          have e : vs = [] := List.length_eq_zero_iff.mp (by rw [l1]; rfl)
          subst e
          exact hp.ret rel h2 hA fun _ z => (show False from z).elim
        · subst z
          have e : us = [] := List.length_eq_zero_iff.mp (by rw [l2]; rfl)
          subst e
          rw [List.append_nil] at hp
          exact hp.ret rel h1 hA fun _ z => (show False from z).elim
        · exact hp.retNew rel ho (.tup (.of upd_same) ((h4.append h6).ext (List.prefix_refl _) (Ext.alloc (A := A) (o := .tup (xs ++ ys)) ho)) .nil) hA
      · exact (show False from hp).elim
    · exact (show False from hp).elim
theorem se_catL (ha : SO X T W a oa) (hb : SO X T W b ob) : SE X T W (.BinOp a .Add b pos) (mN [oa, ob] gCatL) :=
  PE.imp (pe_op op_cat ha hb) fun σ H Q h => op2 h fun x y H1 φ1 s1 r1 r2 A rel h1 h2 _ hA _ _ hp => by
    unfold gCatL at hp
    dsimp only at hp
    split at hp
    · rename_i vs us e1 e2
      split at hp
      · rename_i sz
        obtain ⟨p, xs, rfl, h3, h4⟩ := lst_ok rel h1 e1
        obtain ⟨q, ys, rfl, h5, h6⟩ := lst_ok rel h2 e2
        refine ⟨p, q, xs, ys, rfl, rfl, h4, h6, by have := of_decide_eq_true sz; rw [← h3.length, ← h5.length]; exact Nat.le_trans this (by decide), fun o ho => ?_⟩
        obtain ⟨f1, f2⟩ := rel.fresh ho
        exact hp.retNew rel ho ⟨o, _, rfl, upd_same, f1, f2, (h3.append h5).ext (List.prefix_refl _) (Ext.alloc (A := A) (o := .lst (xs ++ ys)) ho)⟩ hA
      · exact (show False from hp).elim
    · exact (show False from hp).elim
theorem se_rep (ha : SO X T W a oa) (hb : SO X T W b ob) : SE X T W (.BinOp a .Mult b pos) (mN [oa, ob] gRep) :=
  PE.imp (pe_op op_rep ha hb) fun σ H Q h => op2 h fun x y H1 φ1 s1 r1 r2 A rel h1 h2 _ hA _ _ hp => by
    unfold gRep at hp
    split at hp
    · rename_i r k e
      injection e with e1 e2
      injection e2 with e2 _
      subst e1 e2
      split at hp
      · rename_i vs e1
        split at hp
        · rename_i sz
          obtain ⟨sz, s3⟩ := Bool.and_eq_true_iff.mp sz
          obtain ⟨s1, s2⟩ := Bool.and_eq_true_iff.mp sz
          obtain ⟨p, xs, rfl, h3, h4⟩ := lst_ok rel h1 e1
          refine ⟨p, k, xs, rfl, Rv.int_inv h2, h4, of_decide_eq_true s1, of_decide_eq_true s2, by have := of_decide_eq_true s3; rw [← h3.length]; exact Nat.le_trans this (by decide), fun o ho => ?_⟩
          obtain ⟨f1, f2⟩ := rel.fresh ho
          exact hp.retNew rel ho ⟨o, _, rfl, upd_same, f1, f2, (h3.rep _).ext (List.prefix_refl _) (Ext.alloc (A := A) (o := .lst (List.replicate k.toNat xs).flatten) ho)⟩ hA
        · exact (show False from hp).elim
      · exact (show False from hp).elim
    · exact (show False from hp).elim
/-! ### isinstance -/
/-- what an own class's instances need to be asked -/
structure InsF (K : PySem.W.Frag) (C : Addr) : Prop where
  cl : Cls K C
  ha : PySem.W.findIn K (.ref C) "__class__" = some (some (.builtin "object.__class__"))
  hn : PySem.W.specialIn K (.builtin "object.__class__") "__get__" = some (some (.builtin "getset_descriptor.__get__"))
  htk : PySem.W.takesIn K (.builtin "object.__class__") = some true
  hm : PySem.W.mroIn K C (.type "object") = some true
theorem InsF.ty {K : PySem.W.Frag} {C : Addr} (f : InsF K C) {H : Hp} {a dx : Addr} {ys : List (Str × V)} (h : H a = some (.ins C dx ys)) : TyX K H (.ref a) (.ref C) := .base (.ins h f.cl f.ha f.hn f.htk f.hm)
theorem se_isT {cs : List Str} {t : Ty0} {n : Str} (hn : bootBuiltins n = some (.type t.nm)) (hne : n ≠ "__name__") (hnd : (n == ("__debug__" : Str)) = false) (hcs : ∀ c ∈ cs, InsF X.K (cA X.K c) ∧ PySem.W.kitOne X.K (.ref (cA X.K c)) (.type t.nm) = some false) (hg : Gl X "isinstance") (hm : X.mg "isinstance" = none) (hg' : Gl X n) (hm' : X.mg n = none) (ha : SO X T W a oa)
    (he : starEach [a, .Name n p2] X.env = (false, eval a X.env) :: starEach [.Name n p2] X.env := by rfl) (he2 : starEach [.Name n p2] X.env = (false, eval (.Name n p2) X.env) :: starEach [] X.env := by rfl) (hpl : (backTo pos (starEach [.Name n p2] X.env)).any (·.1) = false := by rfl) :
    SE X T W (.Call (.Name "isinstance" p) [a, .Name n p2] [] pos) (mN [oa] (gIsT cs t)) :=
  PE.imp (pe_callB call_isi hg hm (by decide +kernel) (pa_cons ha (pa_cons (pe_bltn (v := .ty t.nm) hg' hm' hn rfl hne hnd) pa_nil he2) he) (he := he) (hpl := hpl)) fun σ H Q h => op1' (fun x H1 => rIsi X.K [x, .ty t.nm] H1 Q) h fun x H1 φ1 s1 r1 A rel h1 hA _ hp => by
    unfold gIsT at hp
    dsimp only at hp
    obtain ⟨t1, t2⟩ := ty_ok rel h1
    split at hp
    · rename_i u hu
      exact ⟨x, _, _, _, _, rfl, .ty _, t1 u hu, kit_ty (isa_ok u t), hp.ret rel Rv.bl hA fun _ z => (show False from z).elim⟩
    · rename_i c hu
      split at hp
      · rename_i m
        obtain ⟨q, dx, ys, rfl, hq⟩ := t2 c hu
        obtain ⟨f, k⟩ := hcs c (of_decide_eq_true m)
        exact ⟨_, _, _, _, _, rfl, .ty _, f.ty hq, k, hp.ret rel Rv.bl hA fun _ z => (show False from z).elim⟩
      · exact (show False from hp).elim
    · exact (show False from hp).elim
theorem se_isT2 {cs : List Str} {t t' : Ty0} {n n' : Str} {k0 : Nat} {p4 : Pos} (hn : bootBuiltins n = some (.type t.nm)) (hne : n ≠ "__name__") (hnd : (n == ("__debug__" : Str)) = false) (hn2 : bootBuiltins n' = some (.type t'.nm)) (hne2 : n' ≠ "__name__") (hnd2 : (n' == ("__debug__" : Str)) = false)
    (hcs : ∀ c ∈ cs, InsF X.K (cA X.K c) ∧ PySem.W.kitOne X.K (.ref (cA X.K c)) (.type t.nm) = some false ∧ PySem.W.kitOne X.K (.ref (cA X.K c)) (.type t'.nm) = some false) (hg : Gl X "isinstance") (hm : X.mg "isinstance" = none) (hg' : Gl X n) (hm' : X.mg n = none) (hg2 : Gl X n') (hm2 : X.mg n' = none) (ha : SO X T W a oa)
    (he : starEach [a, .Tuple [.Name n p2, .Name n' p3] k0 p4] X.env = (false, eval a X.env) :: starEach [.Tuple [.Name n p2, .Name n' p3] k0 p4] X.env := by rfl) (he2 : starEach [.Tuple [.Name n p2, .Name n' p3] k0 p4] X.env = (false, eval (.Tuple [.Name n p2, .Name n' p3] k0 p4) X.env) :: starEach [] X.env := by rfl)
    (he3 : starEach [.Name n p2, .Name n' p3] X.env = (false, eval (.Name n p2) X.env) :: starEach [.Name n' p3] X.env := by rfl) (he4 : starEach [.Name n' p3] X.env = (false, eval (.Name n' p3) X.env) :: starEach [] X.env := by rfl) (hpl : (backTo pos (starEach [.Tuple [.Name n p2, .Name n' p3] k0 p4] X.env)).any (·.1) = false := by rfl) :
    SE X T W (.Call (.Name "isinstance" p) [a, .Tuple [.Name n p2, .Name n' p3] k0 p4] [] pos) (mN [oa] (gIsT2 cs t t')) :=
  PE.imp (pe_callB call_isiT hg hm (by decide +kernel) (pa_cons ha (pa_cons (pe_tup (pa_cons (pe_bltn (v := .ty t.nm) hg' hm' hn rfl hne hnd) (pa_cons (pe_bltn (v := .ty t'.nm) hg2 hm2 hn2 rfl hne2 hnd2) pa_nil he4) he3)) pa_nil he2) he) (he := he) (hpl := hpl)) fun σ H Q h =>
    op1' (fun x H1 => (2 ≤ sizeLine ∧ ∀ q, H1 q = none → rIsiT X.K [x, .ref q] (upd H1 q (.tup [.ty t.nm, .ty t'.nm])) Q)) h fun x H1 φ1 s1 r1 A rel h1 hA _ hp => by
    refine ⟨by decide, fun q hq => ?_⟩
    have rel2 := rel.alloc (o := .tup [.ty t.nm, .ty t'.nm]) hq
    have fin : ∀ b : Bool, Post X.K T W (Rr X.K T) Tm A φ1 σ H1 (.ok (.v (.bl b)) s1) Q → Q (.bl b) (upd H1 q (.tup [.ty t.nm, .ty t'.nm])) := fun b hp =>
      hp φ1 _ _ (List.prefix_refl _) ((Ext.alloc (A := A) (o := .tup [.ty t.nm, .ty t'.nm]) hq).less fun a z => z.elim (fun z => .inl (hA a z)) fun z => (show False from z).elim) rel2 Rv.bl
    unfold gIsT2 at hp
    dsimp only at hp
    have tx : ∀ {c : Value}, TyX X.K H1 x c → TyX X.K (upd H1 q (.tup [.ty t.nm, .ty t'.nm])) x c := fun {c} h => by
      have up : ∀ a o, H1 a = some o → upd H1 q (.tup [.ty t.nm, .ty t'.nm]) a = some o := upd_keeps hq
      cases h with
      | base b =>
        cases b with
        | non => exact .base .non
        | bl y => exact .base (.bl y)
        | int y => exact .base (.int y)
        | str y => exact .base (.str y)
        | flt y => exact .base (.flt y)
        | lst e => exact .base (.lst (up _ _ e))
        | frz e => exact .base (.frz (up _ _ e))
        | tup e => exact .base (.tup (up _ _ e))
        | dK e => exact .base (.dK (up _ _ e))
        | dT e => exact .base (.dT (up _ _ e))
        | ins e a b c d k => exact .base (.ins (up _ _ e) a b c d k)
      | byt y => exact .byt y
      | set e => exact .set (up _ _ e)
      | kList a b => exact .kList a b
      | kTuple a b => exact .kTuple a b
      | kDict a b => exact .kDict a b
      | fTuple e => exact .fTuple (up _ _ e)
      | fDict e => exact .fDict (up _ _ e)
    obtain ⟨t1, t2⟩ := ty_ok rel h1
    split at hp
    · rename_i u hu
      refine ⟨x, q, _, _, _, (isa u t || isa u t'), rfl, upd_same, .cons (.ty _) (.cons (.ty _) .nil), tx (t1 u hu), ?_, fin _ hp⟩
      refine kitAny_cons (kit_ty (isa_ok u t)) (fun e => ?_) fun e => by rw [e]; rfl
      rw [e, Bool.false_or]
      refine kitAny_cons (kit_ty (isa_ok u t')) (fun e => ?_) fun e => e
      rw [e]
      exact kitAny_nil
    · rename_i c hu
      split at hp
      · rename_i m
        obtain ⟨o, dx, ys, rfl, hq'⟩ := t2 c hu
        obtain ⟨f, k1, k2⟩ := hcs c (of_decide_eq_true m)
        exact ⟨_, q, _, _, _, false, rfl, upd_same, .cons (.ty _) (.cons (.ty _) .nil), tx (f.ty hq'), kitAny_cons k1 (fun _ => kitAny_cons k2 (fun _ => kitAny_nil) (fun e => nomatch e)) (fun e => nomatch e), fin _ hp⟩
      · exact (show False from hp).elim
    · exact (show False from hp).elim
theorem se_isO {sub : List (Str × Bool)} {n : Str} (hnd : (n == ("__debug__" : Str)) = false) (hty : ∀ t : Ty0, PySem.W.kitOne X.K (.type t.nm) (.ref (cA X.K n)) = some false) (hcs : ∀ c b, sub.lookup c = some b → InsF X.K (cA X.K c) ∧ PySem.W.kitOne X.K (.ref (cA X.K c)) (.ref (cA X.K n)) = some b)
    (hg : Gl X "isinstance") (hm : X.mg "isinstance" = none) (hg' : Gl X n) (hm' : X.mg n = some (.ref (cA X.K n))) (ha : SO X T W a oa)
    (he : starEach [a, .Name n p2] X.env = (false, eval a X.env) :: starEach [.Name n p2] X.env := by rfl) (he2 : starEach [.Name n p2] X.env = (false, eval (.Name n p2) X.env) :: starEach [] X.env := by rfl) (hpl : (backTo pos (starEach [.Name n p2] X.env)).any (·.1) = false := by rfl) :
    SE X T W (.Call (.Name "isinstance" p) [a, .Name n p2] [] pos) (mN [oa] (gIsO sub)) :=
  PE.imp (pe_callB call_isi hg hm (by decide +kernel) (pa_cons ha (pa_cons (pe_glob (v := .ref (cA X.K n)) hg' hm' rfl hnd) pa_nil he2) he) (he := he) (hpl := hpl)) fun σ H Q h => op1' (fun x H1 => rIsi X.K [x, .ref (cA X.K n)] H1 Q) h fun x H1 φ1 s1 r1 A rel h1 hA _ hp => by
    unfold gIsO at hp
    dsimp only at hp
    obtain ⟨t1, t2⟩ := ty_ok rel h1
    split at hp
    · rename_i u hu
      exact ⟨x, _, _, _, _, rfl, .own _, t1 u hu, hty u, hp.ret rel Rv.bl hA fun _ z => (show False from z).elim⟩
    · rename_i c hu
      split at hp
      · rename_i b m
        obtain ⟨q, dx, ys, rfl, hq⟩ := t2 c hu
        obtain ⟨f, k⟩ := hcs c b m
        exact ⟨_, _, _, _, _, rfl, .own _, f.ty hq, k, hp.ret rel Rv.bl hA fun _ z => (show False from z).elim⟩
      · exact (show False from hp).elim
    · exact (show False from hp).elim
end
end Py

set_option Elab.async false
set_option linter.all false
set_option maxRecDepth 100000
set_option maxHeartbeats 4000000
/-! P7: chains, dicts read; statements: names stored, results dropped, if, return, blocks. -/
namespace Py
open PySem PySem.Spec PyProof.Rows L2

/-! ### dicts, the plain side -/
def valG {κ α : Type} [DecidableEq κ] (kvs : List (κ × α)) (k : κ) : Option α := (kvs.find? fun kv => decide (kv.1 = k)).map (·.2)
def dctOf (s : S) : RV → Option (List (Key × IV))
  | .v (.ref n) => (match s.hp[n]? with
    | some (.dct kvs) => some kvs
    | _ => none)
  | _ => none
def keyR : RV → Option Key
  | .v (.int i) => some (.inl i)
  | .v (.str z) => some (.inr z)
  | _ => none
def gInDk (neg : Bool) : G RV := fun rs s => match rs with
  | [k, d] => (match keyR k, dctOf s d with
    | some q, some kvs => .ok (.v (.bl (if neg then !(valG kvs q).isSome else (valG kvs q).isSome))) s
    | _, _ => .bad)
  | _ => .bad
def gGetD : G RV := fun rs s => match rs with
  | [d, k] => (match keyR k, dctOf s d with
    | some q, some kvs => (match valG kvs q with
      | some x => .ok (.v x) s
      | none => .bad)
    | _, _ => .bad)
  | _ => .bad
section
variable {K : PySem.W.Frag} {T : Tp} {φ : List Addr} {σ : L2.St} {H : Hp} {s : S}
theorem key_ok {r : RV} {x : V} {q : Key} {env : List (Option RV)} (h : Rr K T φ env σ H r x) (e : keyR r = some q) : x = kV q := by
  unfold keyR at e
  split at e
  · cases e
    rw [Rv.int_inv h]
    rfl
  · cases e
    rw [Rv.str_inv h]
    rfl
  · cases e
theorem dct_ok {r : RV} {x : V} {kvs : List (Key × IV)} (rel : Rel K T φ σ H s) (h : Rr K T φ s.env σ H r x) (e : dctOf s r = some kvs) : ∃ n p ys, r = .v (.ref n) ∧ φ[n]? = some p ∧ s.hp[n]? = some (.dct kvs) ∧ x = .ref p ∧ H p = some (.dK ys) ∧ kvs.map (·.1) = ys.map (·.1) ∧ RvL K φ H (kvs.map (·.2)) (ys.map (·.2)) := by
  unfold dctOf at e
  split at e
  · rename_i n
    obtain ⟨p, rfl, hp⟩ := Rv.ref_inv h
    split at e
    · rename_i us hn
      cases e
      cases rel.obj n p _ hp hn with
      | dct h1 h2 h3 => exact ⟨n, p, _, rfl, hp, hn, rfl, h1, h2, h3⟩
    · cases e
  · cases e
theorem val_ok : ∀ {kvs : List (Key × IV)} {ys : List (Key × V)} {k : Key}, kvs.map (·.1) = ys.map (·.1) → RvL K φ H (kvs.map (·.2)) (ys.map (·.2)) → (valG kvs k).isSome = (valV ys k).isSome ∧ ∀ x, valG kvs k = some x → ∃ v, valV ys k = some v ∧ Rv K φ H x v
  | [], [], k, _, _ => ⟨rfl, fun x e => by cases e⟩
  | (g, y) :: fs, (g', v) :: ys, k, e, r => by
    simp only [List.map_cons, List.cons.injEq] at e
    obtain ⟨k1, k2⟩ := e
    subst k1
    have r0 : RvL K φ H (y :: fs.map (·.2)) (v :: ys.map (·.2)) := r
    obtain ⟨i1, i2⟩ := val_ok (k := k) k2 r0.tail
    unfold valG valV at i1 i2 ⊢
    by_cases h : g = k
    · subst h
      simp only [List.find?_cons, decide_true, Option.map_some, Option.isSome_some, true_and]
      intro x e
      cases e
      exact ⟨v, rfl, r0.head⟩
    · have hd : decide (g = k) = false := decide_eq_false h
      simp only [List.find?_cons, hd]
      exact ⟨i1, i2⟩
  | [], _ :: _, _, k, _ => by cases k
  | _ :: _, [], _, k, _ => by cases k
end
section
variable {X : Cx} {T : Tp} {W : WX} {a b c : Expr} {es : List Expr} {oa ob oc : Opd} {os : List Opd} {pos p p2 p3 : Pos}
theorem i_inD {σ : L2.St} {H : Hp} {Q : VK} (h : tE X.K T W (mN [oa, ob] (gInDk false)) σ H Q) : tDIn (tO X.K T W oa) (tO X.K T W ob) σ H Q :=
  op2 (r := fun y x H2 Q => ∃ a o, x = .ref a ∧ DGet H2 a y o ∧ Q (.bl o.isSome) H2) h fun x y H1 φ1 s1 r1 r2 A rel h1 h2 _ hA _ _ hp => by
    unfold gInDk at hp
    dsimp only at hp
    split at hp
    · rename_i q kvs hk hd
      obtain ⟨n, p, ys, _, _, _, rfl, h3, h4, h5⟩ := dct_ok rel h2 hd
      rw [key_ok h1 hk]
      refine ⟨p, _, rfl, DGet.k h3, ?_⟩
      rw [← (val_ok (k := q) h4 h5).1]
      exact hp.ret rel Rv.bl hA fun _ z => (show False from z).elim
    · exact (show False from hp).elim
theorem i_niD {σ : L2.St} {H : Hp} {Q : VK} (h : tE X.K T W (mN [oa, ob] (gInDk true)) σ H Q) : tDNotIn (tO X.K T W oa) (tO X.K T W ob) σ H Q :=
  op2 (r := fun y x H2 Q => ∃ a o, x = .ref a ∧ DGet H2 a y o ∧ Q (.bl (!o.isSome)) H2) h fun x y H1 φ1 s1 r1 r2 A rel h1 h2 _ hA _ _ hp => by
    unfold gInDk at hp
    dsimp only at hp
    split at hp
    · rename_i q kvs hk hd
      obtain ⟨n, p, ys, _, _, _, rfl, h3, h4, h5⟩ := dct_ok rel h2 hd
      rw [key_ok h1 hk]
      refine ⟨p, _, rfl, DGet.k h3, ?_⟩
      rw [← (val_ok (k := q) h4 h5).1]
      exact hp.ret rel Rv.bl hA fun _ z => (show False from z).elim
    · exact (show False from hp).elim
theorem se_inD (hu : X.A.units + 1 < cLine) (ha : SO X T W a oa) (hb : SO X T W b ob) (hm : behindInMarks .In b = false := by rfl) : SE X T W (.Compare a [.In] [b] pos) (mN [oa, ob] (gInDk false)) := PE.imp (pe_cmp (pc_din hu ha hb) hm) fun _ _ _ => i_inD
theorem st_inD (hu : X.A.units + 1 < cLine) (ha : SO X T W a oa) (hb : SO X T W b ob) (hm : behindInMarks .In b = false := by rfl) : ST X T W (.Compare a [.In] [b] pos) (mTest (mN [oa, ob] (gInDk false))) := PT.imp (pt_cmp (pc_din hu ha hb) hm) fun _ _ _ h => i_inD (test_of h)
theorem se_niD (hu : X.A.units + 1 < cLine) (ha : SO X T W a oa) (hb : SO X T W b ob) (hm : behindInMarks .NotIn b = false := by rfl) : SE X T W (.Compare a [.NotIn] [b] pos) (mN [oa, ob] (gInDk true)) := PE.imp (pe_cmp (pc_dnotin hu ha hb) hm) fun _ _ _ => i_niD
theorem st_niD (hu : X.A.units + 1 < cLine) (ha : SO X T W a oa) (hb : SO X T W b ob) (hm : behindInMarks .NotIn b = false := by rfl) : ST X T W (.Compare a [.NotIn] [b] pos) (mTest (mN [oa, ob] (gInDk true))) := PT.imp (pt_cmp (pc_dnotin hu ha hb) hm) fun _ _ _ h => i_niD (test_of h)
theorem se_getD (hu : X.A.units + 1 < cLine) (hs : NoSl b) (ha : SO X T W a oa) (hb : SO X T W b ob) : SE X T W (.Subscript a b pos) (mN [oa, ob] gGetD) :=
  PE.imp (pe_dget hu ha hb hs) fun σ H Q h => op2 (r := fun x y H2 Q => ∃ a v, x = .ref a ∧ DGet H2 a y (some v) ∧ Q v H2) h fun x y H1 φ1 s1 r1 r2 A rel h1 h2 _ hA _ _ hp => by
    unfold gGetD at hp
    dsimp only at hp
    split at hp
    · rename_i q kvs hk hd
      split at hp
      · rename_i z hz
        obtain ⟨n, p, ys, _, _, _, rfl, h3, h4, h5⟩ := dct_ok rel h1 hd
        obtain ⟨v, h6, h7⟩ := (val_ok (k := q) h4 h5).2 z hz
        rw [key_ok h2 hk]
        exact ⟨p, v, rfl, by rw [← h6]; exact DGet.k h3, hp.ret rel h7 hA fun _ z => (show False from z).elim⟩
      · exact (show False from hp).elim
    · exact (show False from hp).elim
/-! ### chains of int comparisons -/
theorem rd_int {φ : List Addr} {env : List (Option RV)} {σ : L2.St} {H : Hp} {s : S} {pn : Pn} {x : V} {i : Int} (rel : Rel X.K T φ σ H s) (h : Pnd X.K T φ s.env σ H pn x) (e : rd s.env pn = some (.v (.int i))) : x = .int i := by
  cases pn with
  | inl j =>
    obtain ⟨y, a1, a2, _⟩ := rdS_ok rel (show rdS s.env j = _ from e)
    have h' : σ[j]? = some (some x) := h
    rw [a1] at h'
    cases h'
    exact Rv.int_inv a2
  | inr r =>
    have e' : r = .v (.int i) := Option.some.inj e
    subst e'
    exact Rv.int_inv h.2
theorem se_chain {op op' : CmpOp} {f f' : Int → Int → Bool} (ho : OpR X (compareOp op) (rI0 fun i j => .bl (f i j))) (ho' : OpR X (compareOp op') (rI0 fun i j => .bl (f' i j))) (ha : SO X T W a oa) (hb : SO X T W b ob) (hc : SO X T W c oc)
    (hm : lastMarks [op, op'] [b, c] = false := by with_unfolding_all rfl) : SE X T W (.Compare a [op, op'] [b, c] pos) (mChain f f' oa ob oc) :=
  PE.imp (pe_chain ho ho' ha hb hc hm) fun σ H Q ⟨φ, s, rel, hp⟩ => by
    refine opd_step rel hp (fun _ z => z) _ fun x H1 φ1 s1 pa pr1 ex1 rel1 pn1 hp1 => ?_
    refine opd_step rel1 hp1 (fun p z => .inr (.inl z)) _ fun y H2 φ2 s2 pb pr2 ex2 rel2 pn2 hp2 => ?_
    have pn1' := pn1.ext pr2 ex2
    split at hp2
    · rename_i i j hi hj
      refine ⟨i, j, rd_int (env := s2.env) rel2 pn1' hi, rd_int (env := s2.env) rel2 pn2 hj, f i j, rfl, ?_⟩
      split at hp2
      · rename_i hf
        rw [if_pos hf]
        refine opd_step rel2 hp2 (fun p z => .inr (.inl z)) _ fun z H3 φ3 s3 pc pr3 ex3 rel3 pn3 hp3 => ?_
        split at hp3
        · rename_i k hk
          exact ⟨j, k, rd_int (env := s2.env) rel2 pn2 hj, rd_int (env := s3.env) rel3 pn3 hk, hp3.ret rel3 Rv.bl (fun p z => .inr (.inl z)) fun _ z => (show False from z).elim⟩
        · exact (show False from hp3).elim
      · rename_i hf
        rw [if_neg (by rw [hf]; decide)]
        exact hp2.ret rel2 Rv.bl (fun p z => .inr (.inl z)) fun _ z => (show False from z).elim
    · exact (show False from hp2).elim
end

/-! ### statements -/
inductive Fl where
  | nx | rt (r : RV) | bk | ct
section
variable (K : PySem.W.Frag) (T : Tp) (W : WX)
def PostS (A : Addr → Prop) (φ : List Addr) (H : Hp) (r : Rs Fl) (D : Ends) : Prop :=
  match r with
  | .ok .nx s' => ∀ φ' H' σ', φ <+: φ' → Ext A H (Mi φ' s'.env σ') H' → Rel K T φ' σ' H' s' → D.nx σ' H'
  | .ok (.rt rv) s' => ∀ φ' H' σ' v, φ <+: φ' → Ext A H (fun p => Mi φ' s'.env σ' p ∨ Tm rv v p) H' → Rel K T φ' σ' H' s' → Rr K T φ' s'.env σ' H' rv v → D.rt v H'
  | .ok .bk s' => ∀ φ' H' σ', φ <+: φ' → Ext A H (Mi φ' s'.env σ') H' → Rel K T φ' σ' H' s' → D.bk σ' H'
  | .ok .ct s' => ∀ φ' H' σ', φ <+: φ' → Ext A H (Mi φ' s'.env σ') H' → Rel K T φ' σ' H' s' → D.ct σ' H'
  | .exn c fs s' => ∀ φ' H' σ' d, φ <+: φ' → Ext A H (Mi φ' s'.env σ') H' → Rel K T φ' σ' H' s' → Xf K φ' H' fs d → W (.ref (cA K c)) d σ' H'
  | .bad => False
def tS (m : M Fl) : TS := fun D σ H => ∃ φ s, Rel K T φ σ H s ∧ PostS K T W (Mi φ s.env σ) φ H (m s) D
end
abbrev SS (X : Cx) (T : Tp) (W : WX) (st : Stmt) (m : M Fl) : Prop := PS X st (tS X.K T W m)
abbrev SB (X : Cx) (T : Tp) (W : WX) (st : List Stmt) (m : M Fl) : Prop := PSs X st (tS X.K T W m)
theorem PS.imp {X : Cx} {e : Stmt} {t t' : TS} (h : PS X e t) (i : ∀ D σ H, t' D σ H → t D σ H) : PS X e t' := ⟨fun pins s σ H D I hw => h.run pins s σ H D I (i D σ H hw)⟩
theorem PSs.imp {X : Cx} {e : List Stmt} {t t' : TS} (h : PSs X e t) (i : ∀ D σ H, t' D σ H → t D σ H) : PSs X e t' := ⟨fun pins s σ H D I hw => h.run pins s σ H D I (i D σ H hw)⟩
def mNx : M Fl := fun s => .ok .nx s
def mSeq (m n : M Fl) : M Fl := fun s => (m s).bind fun f s1 => match f with
  | .nx => n s1
  | f => .ok f s1
def mDrop (m : M RV) : M Fl := fun s => (m s).bind fun _ s1 => .ok .nx s1
def putS (i : Nat) (r : RV) (s : S) : Rs Fl := match r with
  | .f _ => .bad
  | r => .ok .nx ⟨s.env.set i (some r), s.hp⟩
def mSet (i : Nat) (m : M RV) : M Fl := fun s => (m s).bind fun r s1 => putS i r s1
def mRet (m : M RV) : M Fl := fun s => (m s).bind fun r s1 => match r with
  | .f _ => .bad
  | r => .ok (.rt r) s1
def mIfS (c : M Bool) (m n : M Fl) : M Fl := fun s => (c s).bind fun k s1 => match k with
  | true => m s1
  | false => n s1
section
variable {K : PySem.W.Frag} {T : Tp} {W : WX} {φ φ1 : List Addr} {σ : L2.St} {H H1 : Hp} {s s1 : S}
/-- from a later state on -/
theorem PostS.shift {A B : Addr → Prop} {r : Rs Fl} {D : Ends} (h : PostS K T W A φ H r D) (pr : φ <+: φ1) (x : Ext A H B H1) : PostS K T W B φ1 H1 r D := by
  cases r with
  | bad => exact h
  | exn c fs s' => exact fun φ' H' σ' d pr' x' rel xf => h φ' H' σ' d (pr.trans pr') (x.trans x') rel xf
  | ok f s' =>
    cases f with
    | nx => exact fun φ' H' σ' pr' x' rel => h φ' H' σ' (pr.trans pr') (x.trans x') rel
    | bk => exact fun φ' H' σ' pr' x' rel => h φ' H' σ' (pr.trans pr') (x.trans x') rel
    | ct => exact fun φ' H' σ' pr' x' rel => h φ' H' σ' (pr.trans pr') (x.trans x') rel
    | rt rv => exact fun φ' H' σ' v pr' x' rel rr => h φ' H' σ' v (pr.trans pr') (x.trans x') rel rr
theorem PostS.weak {A B : Addr → Prop} {r : Rs Fl} {D : Ends} (h : PostS K T W A φ H r D) (hb : ∀ p, B p → A p) : PostS K T W B φ H r D := by
  cases r with
  | bad => exact h
  | exn c fs s' => exact fun φ' H' σ' d pr' x' rel xf => h φ' H' σ' d pr' (x'.weak hb fun _ z => .inl z) rel xf
  | ok f s' =>
    cases f with
    | nx => exact fun φ' H' σ' pr' x' rel => h φ' H' σ' pr' (x'.weak hb fun _ z => .inl z) rel
    | bk => exact fun φ' H' σ' pr' x' rel => h φ' H' σ' pr' (x'.weak hb fun _ z => .inl z) rel
    | ct => exact fun φ' H' σ' pr' x' rel => h φ' H' σ' pr' (x'.weak hb fun _ z => .inl z) rel
    | rt rv => exact fun φ' H' σ' v pr' x' rel rr => h φ' H' σ' v pr' (x'.weak hb fun _ z => .inl z) rel rr
/-- an expression, then a statement's rest -/
theorem tE_S {m : M RV} {f : RV → S → Rs Fl} {A : Addr → Prop} {D : Ends} (rel : Rel K T φ σ H s) (hA : ∀ p, Mi φ s.env σ p → A p) (h : PostS K T W A φ H ((m s).bind f) D) : tE K T W m σ H fun v H1 => ∃ φ1 s1 rv, m s = .ok rv s1 ∧ φ <+: φ1 ∧ Rel K T φ1 σ H1 s1 ∧ Rr K T φ1 s1.env σ H1 rv v ∧ PostS K T W (fun p => A p ∨ (Mi φ1 s1.env σ p ∨ Tm rv v p)) φ1 H1 (f rv s1) D := by
  refine ⟨φ, s, rel, ?_⟩
  cases q : m s with
  | bad =>
    rw [q] at h
    exact h
  | exn c fs s' =>
    rw [q] at h
    exact fun φ' H' d pr x rel' xf => h φ' H' σ d pr (x.weak hA fun _ z => .inl z) rel' xf
  | ok rv s1 =>
    rw [q] at h
    exact fun φ1 H1 v pr x rel1 rr => ⟨φ1, s1, rv, rfl, pr, rel1, rr, PostS.shift h pr (x.weak hA fun p z => z.symm)⟩
theorem tT_S {m : M Bool} {f : Bool → S → Rs Fl} {A : Addr → Prop} {D : Ends} (rel : Rel K T φ σ H s) (hA : ∀ p, Mi φ s.env σ p → A p) (h : PostS K T W A φ H ((m s).bind f) D) : tT K T W m σ H fun k H1 => ∃ φ1 s1, m s = .ok k s1 ∧ φ <+: φ1 ∧ Rel K T φ1 σ H1 s1 ∧ PostS K T W (fun p => A p ∨ Mi φ1 s1.env σ p) φ1 H1 (f k s1) D := by
  refine ⟨φ, s, rel, ?_⟩
  cases q : m s with
  | bad =>
    rw [q] at h
    exact h
  | exn c fs s' =>
    rw [q] at h
    exact fun φ' H' d pr x rel' xf => h φ' H' σ d pr (x.weak hA fun _ z => .inl z) rel' xf
  | ok k' s1 =>
    rw [q] at h
    intro φ1 H1 k pr x rel1 rr
    have rr : k' = k := rr
    subst rr
    exact ⟨φ1, s1, rfl, pr, rel1, PostS.shift h pr (x.weak hA fun p z => z.elim .inr fun z => .inl (.inl z))⟩
end
end Py

set_option Elab.async false
set_option linter.all false
set_option maxRecDepth 100000
set_option maxHeartbeats 4000000
/-! P8: the rules of simple statements. -/
namespace Py
open PySem PySem.Spec PyProof.Rows L2

/-! ### the plain side -/
def mBad {α : Type} : M α := fun _ => .bad
def mRetN : M Fl := fun s => .ok (.rt (.v .non)) s
def mBk : M Fl := fun s => .ok .bk s
def mCt : M Fl := fun s => .ok .ct s
/-- several names stored -/
def putL : List Nat → List RV → S → Rs Fl
  | [], [], s => .ok .nx s
  | i :: is, r :: rs, s => (putS i r s).bind fun _ s1 => putL is rs s1
  | _, _, _ => .bad
def mPar (is : List Nat) (os : List Opd) : M Fl := mN os fun rs s => putL is rs s

section
variable {K : PySem.W.Frag} {T : Tp} {W : WX} {φ φ1 : List Addr} {σ : L2.St} {H H1 : Hp} {s s1 : S}
theorem PostS.nx {A : Addr → Prop} {D : Ends} (h : PostS K T W A φ H (.ok .nx s) D) (rel : Rel K T φ σ H s) (hA : ∀ p, Mi φ s.env σ p → A p) : D.nx σ H :=
  h φ H σ (List.prefix_refl _) (Ext.refl.less hA) rel
theorem PostS.rt {A : Addr → Prop} {D : Ends} {r : RV} {v : V} (h : PostS K T W A φ H (.ok (.rt r) s) D) (rel : Rel K T φ σ H s) (rr : Rr K T φ s.env σ H r v) (hA : ∀ p, Mi φ s.env σ p → A p) (hT : ∀ p, Tm r v p → A p) : D.rt v H :=
  h φ H σ v (List.prefix_refl _) (Ext.refl.less fun p z => z.elim (hA p) (hT p)) rel rr
theorem PostS.mono {A : Addr → Prop} {r : Rs Fl} {D D' : Ends} (h : PostS K T W A φ H r D) (h1 : ∀ σ H, D.nx σ H → D'.nx σ H) (h2 : ∀ v H, D.rt v H → D'.rt v H) (h3 : ∀ σ H, D.bk σ H → D'.bk σ H) (h4 : ∀ σ H, D.ct σ H → D'.ct σ H) : PostS K T W A φ H r D' := by
  cases r with
  | bad => exact h
  | exn c fs s' => exact h
  | ok f s' =>
    cases f with
    | nx => exact fun φ' H' σ' pr x rel => h1 _ _ (h φ' H' σ' pr x rel)
    | bk => exact fun φ' H' σ' pr x rel => h3 _ _ (h φ' H' σ' pr x rel)
    | ct => exact fun φ' H' σ' pr x rel => h4 _ _ (h φ' H' σ' pr x rel)
    | rt rv => exact fun φ' H' σ' v pr x rel rr => h2 _ _ (h φ' H' σ' v pr x rel rr)
/-- a part's result, then a statement's rest -/
theorem Post_S {α β : Type} {R1 : List Addr → List (Option RV) → L2.St → Hp → α → β → Prop} {Tm1 : α → β → Addr → Prop} {A0 A : Addr → Prop} {r : Rs α} {f : α → S → Rs Fl} {D : Ends} (h : PostS K T W A φ H (r.bind f) D) (hA : ∀ p, A0 p → A p) :
    Post K T W R1 Tm1 A0 φ σ H r fun b H1 => ∃ φ1 s1 a, r = .ok a s1 ∧ φ <+: φ1 ∧ Ext A0 H (fun p => Mi φ1 s1.env σ p ∨ Tm1 a b p) H1 ∧ Rel K T φ1 σ H1 s1 ∧ R1 φ1 s1.env σ H1 a b ∧ PostS K T W (fun p => A p ∨ (Mi φ1 s1.env σ p ∨ Tm1 a b p)) φ1 H1 (f a s1) D := by
  cases r with
  | bad => exact h
  | exn c fs s' => exact fun φ' H' d pr x rel xf => h φ' H' σ d pr (x.weak hA fun _ z => .inl z) rel xf
  | ok a s1 => exact fun φ1 H1 b pr x rel rr => ⟨φ1, s1, a, rfl, pr, x, rel, rr, PostS.shift h pr (x.weak hA fun p z => z.symm)⟩
theorem mN_bind {α : Type} {os : List Opd} {g : List RV → S → Rs α} : mN os g s = (mN os (fun rs s => .ok rs s) s).bind g := by
  unfold mN
  cases runL os s with
  | bad => rfl
  | exn c fs s' => rfl
  | ok ps s1 =>
    show (match rdL s1.env ps with
      | some rs => g rs s1
      | none => .bad) = Rs.bind (match rdL s1.env ps with
      | some rs => Rs.ok rs s1
      | none => .bad) g
    cases rdL s1.env ps <;> rfl
/-- operands, then a statement's last step -/
theorem opsS {os : List Opd} {g : List RV → S → Rs Fl} {D : Ends} {A : Addr → Prop} (rel : Rel K T φ σ H s) (h : PostS K T W A φ H (mN os g s) D) (hA0 : ∀ p, Mi φ s.env σ p → A p) (Q' : List V → Hp → Prop)
    (hq : ∀ xs H1 φ1 s1 rs A, rs.length = os.length → xs.length = os.length → Rel K T φ1 σ H1 s1 → AllR K T φ1 s1.env σ H1 rs xs → (∀ p, Mi φ1 s1.env σ p → A p) → (∀ p, TmL rs xs p → A p) → PostS K T W A φ1 H1 (g rs s1) D → Q' xs H1) : tOs K T W os σ H Q' := by
  rw [mN_bind] at h
  refine mN_step Q' rel (Post_S (R1 := AllR K T) (Tm1 := TmL) (A0 := Mi φ s.env σ) h hA0) fun xs H1 φ1 s1 rs A' l1 l2 rel1 al mA tA hp => ?_
  obtain ⟨φ2, s2, rs2, er, pr, x, rel2, rr, hp⟩ := hp φ1 H1 xs (List.prefix_refl _) (Ext.refl.less fun p z => z.elim (mA p) (tA p)) rel1 al
  exact hq xs H1 φ2 s2 rs2 _ (by rw [← l2]; exact rr.length) l2 rel2 rr (fun p z => .inr (.inl z)) (fun p z => .inr (.inr z)) hp
/-- a slot is written -/
theorem own_set {i j : Nat} {r : RV} {v : V} {p : Addr} (h : Own (s.env.set i (some r)) (σ.set i (some v)) j p) : (j = i ∧ Tm r v p) ∨ (j ≠ i ∧ Own s.env σ j p) := by
  obtain ⟨vs, h1, h2⟩ := h
  by_cases q : j = i
  · subst q
    by_cases l : j < s.env.length
    · rw [List.getElem?_set_self l] at h1
      cases h1
      have l' : j < σ.length := by
        have := (List.getElem?_eq_some_iff.mp h2).1
        simpa using this
      rw [List.getElem?_set_self l'] at h2
      cases h2
      exact .inl ⟨rfl, rfl⟩
    · rw [List.getElem?_eq_none (by simp; omega)] at h1
      cases h1
  · rw [List.getElem?_set_ne (Ne.symm q)] at h1 h2
    exact .inr ⟨q, vs, h1, h2⟩
theorem mi_set {i : Nat} {r : RV} {v : V} {p : Addr} (h : Mi φ (s.env.set i (some r)) (σ.set i (some v)) p) : Mi φ s.env σ p ∨ Tm r v p := by
  rcases h with h | ⟨j, h⟩
  · exact .inl (.inl h)
  · rcases own_set h with ⟨_, h⟩ | ⟨_, h⟩
    · exact .inr h
    · exact .inl (.inr ⟨j, h⟩)
theorem Rel.set {i : Nat} {r : RV} {v : V} (rel : Rel K T φ σ H s) (rr : Rr K T φ s.env σ H r v) (nf : ∀ vs, r ≠ .f vs) : Rel K T φ (σ.set i (some v)) H ⟨s.env.set i (some r), s.hp⟩ where
  nd := rel.nd
  len := rel.len
  obj := rel.obj
  slot := fun j q e => by
    have e : (s.env.set i (some r))[j]? = some q := e
    by_cases qj : j = i
    · subst qj
      by_cases l : j < s.env.length
      · rw [List.getElem?_set_self l] at e
        cases e
        have l' : j < σ.length := by rw [← rel.elen]; exact l
        cases r with
        | v x => exact ⟨v, List.getElem?_set_self l', rr⟩
        | l vs =>
          obtain ⟨p, xs, rfl, e1, e2, e3, e4⟩ := rr
          exact ⟨p, xs, List.getElem?_set_self l', e1, fun m => e2 (.inl m), e4⟩
        | f vs => exact absurd rfl (nf vs)
        | z vs =>
          obtain ⟨p, xs, rfl, e1, e4⟩ := rr
          exact ⟨p, xs, List.getElem?_set_self l', e1, e4⟩
      · rw [List.getElem?_eq_none (by simp; omega)] at e
        cases e
    · rw [List.getElem?_set_ne (Ne.symm qj)] at e
      have z := rel.slot j q e
      have es : (σ.set i (some v))[j]? = σ[j]? := List.getElem?_set_ne (Ne.symm qj)
      cases q with
      | none => trivial
      | some q =>
        cases q with
        | v y => exact z.imp fun _ z => ⟨es.trans z.1, z.2⟩
        | l vs =>
          obtain ⟨p, xs, z1, z2⟩ := z
          exact ⟨p, xs, es.trans z1, z2⟩
        | f vs =>
          obtain ⟨p, xs, z1, z2⟩ := z
          exact ⟨p, xs, es.trans z1, z2⟩
        | z vs =>
          obtain ⟨p, xs, z1, z2⟩ := z
          exact ⟨p, xs, es.trans z1, z2⟩
  inj := fun j k p h1 h2 => by
    have no : Tm r v p → ¬ Mi φ s.env σ p := fun t m => by
      cases r with
      | v x => exact t
      | f x => exact t
      | z x => exact t
      | l vs =>
        obtain ⟨q, xs, rfl, e1, e2, _⟩ := rr
        have t : p = q := t
        rw [t] at m
        exact e2 m
    rcases own_set h1 with ⟨a1, a2⟩ | ⟨a1, a2⟩ <;> rcases own_set h2 with ⟨b1, b2⟩ | ⟨b1, b2⟩
    · rw [a1, b1]
    · exact (no a2 (.inr ⟨k, b2⟩)).elim
    · exact (no b2 (.inr ⟨j, a2⟩)).elim
    · exact rel.inj j k p a2 b2
  tab := rel.tab
  bor := fun b hb => by
    refine ⟨(rel.bor b hb).1, fun m => ?_⟩
    rcases mi_set m with m | m
    · exact (rel.bor b hb).2 m
    · cases r with
      | v x => exact m
      | f x => exact m
      | z x => exact m
      | l vs =>
        obtain ⟨q, xs, rfl, e1, e2, e3, _⟩ := rr
        have m : b = q := m
        rw [m] at hb
        exact e3 hb
  elen := by simp [rel.elen]
theorem noF_cons {r : RV} {rs : List RV} : noF (r :: rs) ↔ noF [r] ∧ noF rs := by
  cases r <;> simp [noF]
theorem Rr.set {i : Nat} {r r2 : RV} {v v2 : V} (h : Rr K T φ s.env σ H r2 v2) (nf : noF [r2]) (d : ∀ a, Tm r v a → ¬ Tm r2 v2 a) : Rr K T φ (s.env.set i (some r)) (σ.set i (some v)) H r2 v2 := by
  cases r2 with
  | v x => exact h
  | f vs => exact nf.elim
  | z vs => exact h
  | l vs =>
    obtain ⟨p, xs, rfl, e1, e2, e3⟩ := h
    refine ⟨p, xs, rfl, e1, fun m => ?_, e3⟩
    rcases mi_set m with m | m
    · exact e2 m
    · exact d p m rfl
theorem AllR.set {i : Nat} {r : RV} {v : V} : ∀ {rs : List RV} {xs : List V}, AllR K T φ s.env σ H rs xs → noF rs → (∀ a, Tm r v a → ¬ TmL rs xs a) → AllR K T φ (s.env.set i (some r)) (σ.set i (some v)) H rs xs
  | [], [], _, _, _ => trivial
  | r1 :: _, _ :: _, h, n, d => by
    have n1 : noF [r1] ∧ noF _ := noF_cons.mp n
    exact ⟨h.1.set n1.1 fun a z z2 => d a z (.inl z2), AllR.set h.2.1 n1.2 fun a z z2 => d a z (.inr z2), h.2.2⟩
  | [], _ :: _, h, _, _ => h.elim
  | _ :: _, [], h, _, _ => h.elim
theorem putL_noF {A : Addr → Prop} {D : Ends} : ∀ {is : List Nat} {rs : List RV} {s : S}, PostS K T W A φ H (putL is rs s) D → noF rs
  | _, [], _, _ => trivial
  | [], _ :: _, _, h => (show False from h).elim
  | i :: is, .f _ :: rs, s, h => (show False from h).elim
  | i :: is, .v x :: rs, s, h => noF_cons.mpr ⟨trivial, putL_noF (is := is) (rs := rs) (s := ⟨s.env.set i (some (.v x)), s.hp⟩) h⟩
  | i :: is, .l x :: rs, s, h => noF_cons.mpr ⟨trivial, putL_noF (is := is) (rs := rs) (s := ⟨s.env.set i (some (.l x)), s.hp⟩) h⟩
  | i :: is, .z x :: rs, s, h => noF_cons.mpr ⟨trivial, putL_noF (is := is) (rs := rs) (s := ⟨s.env.set i (some (.z x)), s.hp⟩) h⟩
theorem putS_ok {i : Nat} {r : RV} {v : V} {f : Fl → S → Rs Fl} {A : Addr → Prop} {D : Ends} (rel : Rel K T φ σ H s) (rr : Rr K T φ s.env σ H r v) (hA : ∀ p, Mi φ s.env σ p → A p) (hT : ∀ p, Tm r v p → A p) (h : PostS K T W A φ H ((putS i r s).bind f) D) :
    (∀ vs, r ≠ .f vs) ∧ Rel K T φ (σ.set i (some v)) H ⟨s.env.set i (some r), s.hp⟩ ∧ (∀ p, Mi φ (s.env.set i (some r)) (σ.set i (some v)) p → A p) ∧ PostS K T W A φ H (f .nx ⟨s.env.set i (some r), s.hp⟩) D := by
  have mi : ∀ p, Mi φ (s.env.set i (some r)) (σ.set i (some v)) p → A p := fun p m => (mi_set m).elim (hA p) (hT p)
  cases r with
  | f vs => exact (show False from h).elim
  | v x => exact ⟨fun _ z => (by cases z), rel.set rr fun _ z => (by cases z), mi, h⟩
  | l x => exact ⟨fun _ z => (by cases z), rel.set rr fun _ z => (by cases z), mi, h⟩
  | z x => exact ⟨fun _ z => (by cases z), rel.set rr fun _ z => (by cases z), mi, h⟩
end

section
variable {X : Cx} {T : Tp} {W : WX} {e : Expr} {st : Stmt} {rest : List Stmt} {m : M RV} {c : M Bool} {n n1 n2 : M Fl} {pos : Pos}
theorem ss_nil : SB X T W [] mNx := PSs.imp pss_nil fun D σ H ⟨φ, s, rel, h⟩ => h.nx rel fun _ z => z
theorem ss_cons (h1 : SS X T W st n1) (h2 : SB X T W rest n2) : SB X T W (st :: rest) (mSeq n1 n2) := PSs.imp (pss_cons h1 h2) fun D σ H ⟨φ, s, rel, h⟩ => by
  refine ⟨φ, s, rel, ?_⟩
  unfold mSeq at h
  cases q : n1 s with
  | bad =>
    rw [q] at h
    exact h
  | exn c fs s' =>
    rw [q] at h
    exact h
  | ok f s' =>
    rw [q] at h
    cases f with
    | bk => exact h
    | ct => exact h
    | rt r => exact h
    | nx => exact fun φ' H' σ' pr x rel' => ⟨φ', s', rel', PostS.shift (r := n2 s') h pr x⟩
theorem ss_one (h1 : SS X T W st n1) : SB X T W [st] n1 := pss_one h1
theorem ss_pass : SS X T W (.Pass pos) mNx := PS.imp ps_pass fun D σ H ⟨φ, s, rel, h⟩ => h.nx rel fun _ z => z
theorem ss_break : SS X T W (.Break pos) mBk := PS.imp ps_break fun D σ H ⟨φ, s, rel, h⟩ => h φ H σ (List.prefix_refl _) Ext.refl rel
theorem ss_cont : SS X T W (.Continue pos) mCt := PS.imp ps_continue fun D σ H ⟨φ, s, rel, h⟩ => h φ H σ (List.prefix_refl _) Ext.refl rel
theorem ss_doc {x j pos'} : SS X T W (.Expr (.Constant (.str x) j pos) pos') mNx := PS.imp ps_doc fun D σ H ⟨φ, s, rel, h⟩ => h.nx rel fun _ z => z
theorem ss_bad : SS X T W st mBad := PS.imp ps_never fun D σ H ⟨φ, s, rel, h⟩ => h
theorem sb_bad : SB X T W rest mBad := PSs.imp pss_never fun D σ H ⟨φ, s, rel, h⟩ => h
theorem se_bad : SE X T W e mBad := ⟨fun _ _ _ _ _ _ ⟨_, _, _, h⟩ => (show False from h).elim⟩
theorem st_bad : ST X T W e mBad := ⟨fun _ _ _ _ _ _ ⟨_, _, _, h⟩ => (show False from h).elim⟩
theorem tE_mono {K : PySem.W.Frag} {σ : L2.St} {H : Hp} {Q Q' : VK} (h : tE K T W m σ H Q) (q : ∀ v H', Q v H' → Q' v H') : tE K T W m σ H Q' := by
  obtain ⟨φ, s, rel, p⟩ := h
  exact ⟨φ, s, rel, p.mono q⟩
theorem tT_mono {K : PySem.W.Frag} {σ : L2.St} {H : Hp} {Q Q' : Bool → Hp → Prop} (h : tT K T W c σ H Q) (q : ∀ v H', Q v H' → Q' v H') : tT K T W c σ H Q' := by
  obtain ⟨φ, s, rel, p⟩ := h
  exact ⟨φ, s, rel, p.mono q⟩
theorem ss_drop (he : SE X T W e m) (hs : swapsWith e none pos.line X.env = pure false := by rfl) : SS X T W (.Expr e pos) (mDrop m) := PS.imp (ps_expr he hs) fun D σ H ⟨φ, s, rel, h⟩ =>
  tE_mono (tE_S rel (fun _ z => z) h) fun v H1 ⟨φ1, s1, rv, _, pr, rel1, rr, hp⟩ => hp.nx rel1 fun p z => .inr (.inl z)
theorem ss_ret (he : SE X T W e m) : SS X T W (.Return (some e) pos) (mRet m) := PS.imp (ps_ret he) fun D σ H ⟨φ, s, rel, h⟩ =>
  tE_mono (tE_S rel (fun _ z => z) h) fun v H1 ⟨φ1, s1, rv, _, pr, rel1, rr, hp⟩ => by
    cases rv with
    | f vs => exact (show False from hp).elim
    | v x => exact hp.rt rel1 rr (fun p z => .inr (.inl z)) fun p z => .inr (.inr z)
    | l x => exact hp.rt rel1 rr (fun p z => .inr (.inl z)) fun p z => .inr (.inr z)
    | z x => exact hp.rt rel1 rr (fun p z => .inr (.inl z)) fun p z => .inr (.inr z)
theorem ss_retN : SS X T W (.Return none pos) mRetN := PS.imp ps_retN fun D σ H ⟨φ, s, rel, h⟩ => h.rt rel (v := .non) Rv.non (fun _ z => z) fun _ z => (show False from z).elim
theorem ss_if {tc : Expr} {a b : List Stmt} (hc : ST X T W tc c) (ha : SB X T W a n1) (hb : SB X T W b n2) : SS X T W (.If tc a b pos) (mIfS c n1 n2) := PS.imp (ps_if hc ha hb) fun D σ H ⟨φ, s, rel, h⟩ =>
  tT_mono (tT_S rel (fun _ z => z) h) fun k H1 ⟨φ1, s1, _, pr, rel1, hp⟩ => by
    cases k with
    | true => exact ⟨φ1, s1, rel1, hp.weak fun p z => .inr z⟩
    | false => exact ⟨φ1, s1, rel1, hp.weak fun p z => .inr z⟩
theorem ss_set {i : Nat} {x : Str} {pos' : Pos} (hN : X.N.Nodup) (hi : X.N[i]? = some x) (hx : Loc X.env.scope x) (he : SE X T W e m) (hs : swapsWith e (some (.Name x pos')) pos.line X.env = pure false := by rfl) (hf : X.fn x = true ∨ X.env.scope.names.lookup x = some .local := by first | exact .inl rfl | exact .inr rfl | assumption) : SS X T W (.Assign [.Name x pos'] e pos) (mSet i m) :=
  PS.imp (ps_set hN hi hx he hs hf) fun D σ H ⟨φ, s, rel, h⟩ =>
    tE_mono (tE_S rel (fun _ z => z) h) fun v H1 ⟨φ1, s1, rv, _, pr, rel1, rr, hp⟩ => by
      have e : (putS i rv s1).bind (fun f s => .ok f s) = putS i rv s1 := by cases putS i rv s1 <;> rfl
      rw [← e] at hp
      obtain ⟨_, r2, mi, h2⟩ := putS_ok rel1 rr (fun p z => .inr (.inl z)) (fun p z => .inr (.inr z)) hp
      exact h2.nx r2 mi
theorem putL_cons {i : Nat} {is : List Nat} {r : RV} {rs : List RV} {s : S} : putL (i :: is) (r :: rs) s = (putS i r s).bind fun _ s1 => putL is rs s1 := rfl
theorem ss_par {i j : Nat} {x y : Str} {a b : Expr} {oa ob : Opd} {px py pt : Pos} {kt k2 pt2} (hc : X.calm = true) (hN : X.N.Nodup) (hi : X.N[i]? = some x) (hj : X.N[j]? = some y) (hij : i ≠ j)
    (hx : X.env.scope.names.lookup x = some .local) (hy : X.env.scope.names.lookup y = some .local) (ha : SA X T W [a, b] [oa, ob])
    (hw : swappedStores [.Tuple [.Name x px, .Name y py] kt pt] (.Tuple [a, b] k2 pt2) X.env = pure (some [x, y]))
    (hs : swapsWithSole [.Tuple [.Name x px, .Name y py] kt pt] (.Tuple [a, b] k2 pt2) pos.line X.env = pure false := by rfl) :
    SS X T W (.Assign [.Tuple [.Name x px, .Name y py] kt pt] (.Tuple [a, b] k2 pt2) pos) (mPar [i, j] [oa, ob]) :=
  PS.imp (ps_par hc hN hi hj hij hx hy ha hw hs) fun D σ H ⟨φ, s, rel, h⟩ => opsS rel h (fun _ z => z) _ fun xs H1 φ1 s1 rs A l1 l2 rel1 al hA hT hp => by
    match rs, xs, l1, l2, al, hp, hT with
    | [r1, r2], [x, y], _, _, al, hp, hT =>
      refine ⟨x, y, rfl, ?_⟩
      rw [putL_cons] at hp
      obtain ⟨_, rel2, mi2, hp⟩ := putS_ok rel1 al.1 hA (fun p z => hT p (.inl z)) hp
      have al2 : AllR X.K T φ1 _ _ H1 [r2] [y] := AllR.set (i := i) al.2.1 (putL_noF hp) al.2.2
      rw [putL_cons] at hp
      obtain ⟨_, rel3, mi3, hp⟩ := putS_ok (σ := σ.set i (some x)) (s := ⟨s1.env.set i (some r1), s1.hp⟩) rel2 al2.1 mi2 (fun p z => hT p (.inr (.inl z))) hp
      exact PostS.nx (s := ⟨(s1.env.set i (some r1)).set j (some r2), s1.hp⟩) hp rel3 mi3
theorem ss_par3 {i j l : Nat} {x y z : Str} {a b c : Expr} {oa ob oc : Opd} {px py pz pt : Pos} {kt k2 pt2} (hc : X.calm = true) (hN : X.N.Nodup) (hi : X.N[i]? = some x) (hj : X.N[j]? = some y) (hl : X.N[l]? = some z) (hij : i ≠ j) (hil : i ≠ l) (hjl : j ≠ l)
    (hx : X.env.scope.names.lookup x = some .local) (hy : X.env.scope.names.lookup y = some .local) (hz : X.env.scope.names.lookup z = some .local) (ha : SA X T W [a, b, c] [oa, ob, oc])
    (hw : swappedStores [.Tuple [.Name x px, .Name y py, .Name z pz] kt pt] (.Tuple [a, b, c] k2 pt2) X.env = pure (some [x, y, z]))
    (hs : swapsWithSole [.Tuple [.Name x px, .Name y py, .Name z pz] kt pt] (.Tuple [a, b, c] k2 pt2) pos.line X.env = pure false := by rfl) :
    SS X T W (.Assign [.Tuple [.Name x px, .Name y py, .Name z pz] kt pt] (.Tuple [a, b, c] k2 pt2) pos) (mPar [i, j, l] [oa, ob, oc]) :=
  PS.imp (ps_par3 hc hN hi hj hl hij hil hjl hx hy hz ha hw hs) fun D σ H ⟨φ, s, rel, h⟩ => opsS rel h (fun _ z => z) _ fun xs H1 φ1 s1 rs A l1 l2 rel1 al hA hT hp => by
    match rs, xs, l1, l2, al, hp, hT with
    | [r1, r2, r3], [x, y, w], _, _, al, hp, hT =>
      refine ⟨x, y, w, rfl, ?_⟩
      rw [putL_cons] at hp
      obtain ⟨_, rel2, mi2, hp⟩ := putS_ok rel1 al.1 hA (fun p z => hT p (.inl z)) hp
      have al2 : AllR X.K T φ1 _ _ H1 [r2, r3] [y, w] := AllR.set (i := i) al.2.1 (putL_noF hp) al.2.2
      rw [putL_cons] at hp
      obtain ⟨_, rel3, mi3, hp⟩ := putS_ok (σ := σ.set i (some x)) (s := ⟨s1.env.set i (some r1), s1.hp⟩) rel2 al2.1 mi2 (fun p z => hT p (.inr (.inl z))) hp
      have al3 : AllR X.K T φ1 _ _ H1 [r3] [w] := AllR.set (s := ⟨s1.env.set i (some r1), s1.hp⟩) (i := j) al2.2.1 (putL_noF hp) al2.2.2
      rw [putL_cons] at hp
      obtain ⟨_, rel4, mi4, hp⟩ := putS_ok (σ := (σ.set i (some x)).set j (some y)) (s := ⟨(s1.env.set i (some r1)).set j (some r2), s1.hp⟩) rel3 al3.1 mi3 (fun p z => hT p (.inr (.inr (.inl z)))) hp
      exact PostS.nx (s := ⟨((s1.env.set i (some r1)).set j (some r2)).set l (some r3), s1.hp⟩) hp rel4 mi4
end
end Py

set_option Elab.async false
set_option linter.all false
set_option maxRecDepth 100000
set_option maxHeartbeats 4000000
/-! P9: boxes, objects written (items, fields, append), targets. -/
namespace Py
open PySem PySem.Spec PyProof.Rows L2

/-! ### the plain side -/
/-- a new list becomes an object -/
def mBox (m : M RV) : M RV := fun s => (m s).bind fun r s1 => match r with
  | .l vs => .ok (.v (.ref s1.hp.length)) ⟨s1.env, s1.hp ++ [.lst vs]⟩
  | r => .ok r s1
def boxV (r : RV) (s : S) : Option (IV × S) := match r with
  | .v x => some (x, s)
  | .l vs => some (.ref s.hp.length, ⟨s.env, s.hp ++ [.lst vs]⟩)
  | _ => none
def wrO (n : Nat) (o : IO) (s : S) : S := ⟨s.env, s.hp.set n o⟩
/-- e, o, i: o[i] = e -/
def gSetI : List RV → S → Rs Fl := fun rs s => match rs with
  | [.v x, .v (.ref n), .v (.int i)] => (match s.hp[n]? with
    | some (.lst vs) => (match ixN vs.length i with
      | some j => .ok .nx (wrO n (.lst (vs.set j x)) s)
      | none => .bad)
    | _ => .bad)
  | _ => .bad
def putI (f : Str) (v : IV) : List (Str × IV) → List (Str × IV)
  | [] => [(f, v)]
  | (g, x) :: fs => if g = f then (g, v) :: fs else (g, x) :: putI f v fs
/-- e, o: o.f = e -/
def gSetF (cs : List Str) (f : Str) : List RV → S → Rs Fl := fun rs s => match rs with
  | [.v x, .v (.ref n)] => (match s.hp[n]? with
    | some (.ins c fs) => (match decide (c ∈ cs) && decide (fs.length < 1000) with
      | true => .ok .nx (wrO n (.ins c (putI f x fs)) s)
      | false => .bad)
    | _ => .bad)
  | _ => .bad
/-- the slot's own list takes one more -/
def mApp (i : Nat) (m : M RV) : M RV := fun s => match s.env[i]? with
  | some (some (.l _)) => ((m s).bind fun r s1 => match boxV r s1 with
    | some (x, s2) => (match s2.env[i]? with
      | some (some (.l vs)) => (match decide (vs.length < 100000) with
        | true => .ok (.v .non) ⟨s2.env.set i (some (.l (vs ++ [x]))), s2.hp⟩
        | false => .bad)
      | _ => .bad)
    | none => .bad)
  | some (some (.v (.ref n))) => (match s.hp[n]? with
    | some (.lst _) => ((m s).bind fun r s1 => match boxV r s1 with
      | some (x, s2) => (match s2.hp[n]? with
        | some (.lst vs) => (match decide (vs.length < 100000) with
          | true => .ok (.v .non) (wrO n (.lst (vs ++ [x])) s2)
          | false => .bad)
        | _ => .bad)
      | none => .bad)
    | _ => .bad)
  | _ => .bad
def setN (i : Nat) (x : IV) (s : S) : Option S := some ⟨s.env.set i (some (.v x)), s.hp⟩
def setNs : List Nat → List IV → List (Option RV) → Option (List (Option RV))
  | [], [], env => some env
  | i :: is, x :: xs, env => setNs is xs (env.set i (some (.v x)))
  | _, _, _ => none
def setT (is : List Nat) (x : IV) (s : S) : Option S := match x with
  | .tup xs => (setNs is xs s.env).map fun e => ⟨e, s.hp⟩
  | _ => none
/-- target = e -/
def mAsg (p : IV → S → Option S) (m : M RV) : M Fl := fun s => (m s).bind fun r s1 => match r with
  | .v x => (match p x s1 with
    | some s2 => .ok .nx s2
    | none => .bad)
  | _ => .bad

section
variable {K : PySem.W.Frag} {T : Tp} {W : WX} {φ φ1 : List Addr} {σ : L2.St} {H H1 : Hp} {s s1 : S}
theorem tabs_wr {L : List (Addr × Str)} {p : Addr} {o u : HO} (t : LamX.Tabs L H) (h : H p = some o) (n : ∀ ps, o ≠ .tbl ps) (n2 : ∀ ψ, o ≠ .ext ψ) : LamX.Tabs L (upd H p u) := fun q hq => by
  obtain ⟨ps, e, k1, k2⟩ := t q hq
  have ne : q.1 ≠ p := fun z => by
    rw [z, h] at e
    cases e
    exact n _ rfl
  refine ⟨ps, by rw [upd_ne ne]; exact e, k1, fun pos cv hc => ?_⟩
  obtain ⟨c, e1, e2⟩ := k2 pos cv hc
  have ne2 : c ≠ p := fun z => by
    rw [z, h] at e2
    cases e2
    exact n2 _ rfl
  exact ⟨c, e1, by rw [upd_ne ne2]; exact e2⟩
theorem Ro.noExt {a : Addr} {o : IO} {u : HO} (r : Ro K φ H a o) (h : H a = some u) : ∀ ψ, u ≠ .ext ψ := by
  cases r with
  | lst e _ => rw [e] at h; cases h; exact fun _ z => nomatch z
  | dct e _ _ => rw [e] at h; cases h; exact fun _ z => nomatch z
  | ins e _ _ => rw [e] at h; cases h; exact fun _ z => nomatch z
/-- an object is written -/
theorem Rel.wr {n : Nat} {p : Addr} {u0 u : HO} {o o' : IO} (rel : Rel K T φ σ H s) (ntu : ∀ ps, u ≠ .tbl ps) (hp : φ[n]? = some p) (ho : s.hp[n]? = some o) (hu : H p = some u0) (ro : Ro K φ (upd H p u) p o') : Rel K T φ σ (upd H p u) (wrO n o' s) ∧ Ext (Mi φ s.env σ) H (Mi φ s.env σ) (upd H p u) := by
  have mp : Mi φ s.env σ p := .inl (List.mem_of_getElem? hp)
  obtain ⟨u1, e1, im, nt⟩ := rel.there mp
  rw [hu] at e1
  cases e1
  have x : Ext (Mi φ s.env σ) H (Mi φ s.env σ) (upd H p u)   := Ext.write mp hu im ntu
  refine ⟨⟨rel.nd, by simp [wrO, rel.len], fun m a o2 h1 h2 => ?_, fun i q e => ?_, rel.inj, tabs_wr rel.tab hu nt ((rel.obj n p o hp ho).noExt hu), fun b hb => ?_, rel.elen⟩, x⟩
  · by_cases q : m = n
    · subst q
      rw [hp] at h1
      cases h1
      have l : m < s.hp.length := (List.getElem?_eq_some_iff.mp ho).1
      have h2 : (s.hp.set m o')[m]? = some o2 := h2
      rw [List.getElem?_set_self l] at h2
      cases h2
      exact ro
    · have h2 : (s.hp.set n o')[m]? = some o2 := h2
      rw [List.getElem?_set_ne (Ne.symm q)] at h2
      have ne : a ≠ p := fun z => by
        subst z
        exact q ((List.getElem?_inj (List.getElem?_eq_some_iff.mp h1).1 rel.nd).mp (h1.trans hp.symm))
      exact (rel.obj m a o2 h1 h2).ext (List.prefix_refl _) x fun w e => by rw [upd_ne ne]; exact e
  · have z := rel.slot i q e
    cases q with
    | none => trivial
    | some q =>
      cases q with
      | v y =>
        obtain ⟨v, e1, e2⟩ := z
        exact ⟨v, e1, e2.ext (List.prefix_refl _) x⟩
      | l us =>
        obtain ⟨b, ys, b1, b2, b3, b4⟩ := z
        have ne : b ≠ p := fun z => b3 (by rw [z]; exact List.mem_of_getElem? hp)
        exact ⟨b, ys, b1, by rw [upd_ne ne]; exact b2, b3, b4.ext (List.prefix_refl _) x⟩
      | f us =>
        obtain ⟨b, ys, b1, b2, b3, b4⟩ := z
        have ne : b ≠ p := fun z => (rel.bor b b3).2 (by rw [z]; exact mp)
        exact ⟨b, ys, b1, by rw [upd_ne ne]; exact b2, b3, b4.ext (List.prefix_refl _) x⟩
      | z us =>
        obtain ⟨b, ys, b1, b2, b4⟩ := z
        exact ⟨b, ys, b1, b2.ext x, b4.ext (List.prefix_refl _) x⟩
  · obtain ⟨h1, h2⟩ := rel.bor b hb
    exact ⟨fun z => h1 (x.dom b z), h2⟩
/-- a slot's own list is written -/
theorem Rel.wrS {i : Nat} {vs vs' : List IV} (rel : Rel K T φ σ H s) (e : s.env[i]? = some (some (.l vs))) : ∃ p xs, σ[i]? = some (some (.ref p)) ∧ H p = some (.lst xs) ∧ RvL K φ H vs xs ∧ Mi φ s.env σ p ∧ ∀ xs', RvL K φ H vs' xs' → 
    Rel K T φ σ (upd H p (.lst xs')) ⟨s.env.set i (some (.l vs')), s.hp⟩ ∧ Ext (Mi φ s.env σ) H (Mi φ s.env σ) (upd H p (.lst xs')) ∧ ∀ a, Mi φ (s.env.set i (some (.l vs'))) σ a → Mi φ s.env σ a := by
  obtain ⟨p, xs, e1, e2, e3, e4⟩ := rel.slot i _ e
  have hil : i < s.env.length := (List.getElem?_eq_some_iff.mp e).1
  have own : Own s.env σ i p := ⟨vs, e, e1⟩
  refine ⟨p, xs, e1, e2, e4, .inr ⟨i, own⟩, fun xs' r' => ?_⟩
  have x : Ext (Mi φ s.env σ) H (Mi φ s.env σ) (upd H p (.lst xs')) := Ext.write (.inr ⟨i, own⟩) e2 rfl
  have sub : ∀ j a, Own (s.env.set i (some (.l vs'))) σ j a → Own s.env σ j a := fun j a ⟨us, h1, h2⟩ => by
    by_cases q : j = i
    · subst q
      rw [e1] at h2
      cases h2
      exact own
    · rw [List.getElem?_set_ne (Ne.symm q)] at h1
      exact ⟨us, h1, h2⟩
  have mi : ∀ a, Mi φ (s.env.set i (some (.l vs'))) σ a → Mi φ s.env σ a := fun a m => m.imp id fun ⟨j, o⟩ => ⟨j, sub j a o⟩
  refine ⟨⟨rel.nd, rel.len, fun m a o2 h1 h2 => ?_, fun j q h => ?_, fun j k a h1 h2 => rel.inj j k a (sub j a h1) (sub k a h2), tabs_wr rel.tab e2 (fun _ z => nomatch z) (fun _ z => nomatch z), fun b hb => ?_, by simp [rel.elen]⟩, x, mi⟩
  · have ne : a ≠ p := fun z => e3 (by rw [← z]; exact List.mem_of_getElem? h1)
    exact (rel.obj m a o2 h1 h2).ext (List.prefix_refl _) x fun w e => by rw [upd_ne ne]; exact e
  · by_cases q' : j = i
    · subst q'
      have h : (s.env.set j (some (.l vs')))[j]? = some q := h
      rw [List.getElem?_set_self hil] at h
      cases h
      exact ⟨p, xs', e1, upd_same, e3, r'.ext (List.prefix_refl _) x⟩
    · have h : (s.env.set i (some (.l vs')))[j]? = some q := h
      rw [List.getElem?_set_ne (Ne.symm q')] at h
      have z := rel.slot j q h
      cases q with
      | none => trivial
      | some q =>
        cases q with
        | v y =>
          obtain ⟨v, e1, e2⟩ := z
          exact ⟨v, e1, e2.ext (List.prefix_refl _) x⟩
        | l us =>
          obtain ⟨b, ys, b1, b2, b3, b4⟩ := z
          have ne : b ≠ p := fun z => q' (rel.inj j i p ⟨us, h, by rw [← z]; exact b1⟩ own)
          exact ⟨b, ys, b1, by rw [upd_ne ne]; exact b2, b3, b4.ext (List.prefix_refl _) x⟩
        | f us =>
          obtain ⟨b, ys, b1, b2, b3, b4⟩ := z
          have ne : b ≠ p := fun z => (rel.bor b b3).2 (by rw [z]; exact .inr ⟨i, own⟩)
          exact ⟨b, ys, b1, by rw [upd_ne ne]; exact b2, b3, b4.ext (List.prefix_refl _) x⟩
        | z us =>
          obtain ⟨b, ys, b1, b2, b4⟩ := z
          exact ⟨b, ys, b1, b2.ext x, b4.ext (List.prefix_refl _) x⟩
  · obtain ⟨h1, h2⟩ := rel.bor b hb
    exact ⟨fun z => h1 (x.dom b z), fun m => h2 (mi b m)⟩
theorem boxV_ok {r : RV} {v : V} {x : IV} (rel : Rel K T φ σ H s) (rr : Rr K T φ s.env σ H r v) (e : boxV r s = some (x, s1)) : ∃ φ1, φ <+: φ1 ∧ Rel K T φ1 σ H s1 ∧ Rv K φ1 H x v ∧ s1.env = s.env ∧ ∀ a, Mi φ1 s1.env σ a → Mi φ s.env σ a ∨ Tm r v a := by
  cases r with
  | v y =>
    cases e
    exact ⟨φ, List.prefix_refl _, rel, rr, rfl, fun _ z => .inl z⟩
  | l vs =>
    cases e
    obtain ⟨p, xs, rfl, e1, e2, e3, e4⟩ := rr
    exact ⟨φ ++ [p], pre_snoc, rel.box e1 e2 e3 e4, .ref (by rw [← rel.len]; simp) .nil, rfl, fun a z => mi_snoc z⟩
  | f vs => cases e
  | z vs => cases e
end
section
variable {X : Cx} {T : Tp} {W : WX} {e a b : Expr} {oa ob oc : Opd} {m : M RV} {pos : Pos}
theorem se_box (h : SE X T W e m) : SE X T W e (mBox m) := PE.imp h fun σ H Q ⟨φ, s, rel, p⟩ => by
  refine ⟨φ, s, rel, (p.bind (R1 := Rr X.K T) (Tm1 := Tm) fun _ z => z).mono fun x H1 hx => ?_⟩
  obtain ⟨φ1, s1, r, er, pr, ex, rel1, rr, hp⟩ := hx
  cases r with
  | v y => exact hp.ret rel1 rr (fun p z => .inr (.inl z)) fun p z => .inr (.inr z)
  | z y => exact hp.ret rel1 rr (fun p z => .inr (.inl z)) fun p z => .inr (.inr z)
  | f y => exact hp.ret rel1 rr (fun p z => .inr (.inl z)) fun p z => .inr (.inr z)
  | l vs =>
    obtain ⟨q, xs, rfl, e1, e2, e3, e4⟩ := rr
    refine hp (φ1 ++ [q]) H1 (.ref q) pre_snoc (Ext.refl.less fun a z => ?_) (rel1.box e1 e2 e3 e4) (.ref (by rw [← rel1.len]; simp) .nil)
    rcases z with z | z
    · rcases mi_snoc z with z | z
      · exact .inr (.inl z)
      · exact .inr (.inr z)
    · exact (show False from z).elim
theorem RvL.setAt {K : PySem.W.Frag} {φ : List Addr} {H : Hp} {x : IV} {v : V} : ∀ {vs : List IV} {xs : List V}, RvL K φ H vs xs → Rv K φ H x v → ∀ j : Nat, RvL K φ H (vs.set j x) (xs.set j v)
  | [], [], _, _, _ => .nil
  | y :: vs, w :: xs, h, r, 0 => .cons r h.tail
  | y :: vs, w :: xs, h, r, j + 1 => .cons h.head (RvL.setAt h.tail r j)
  | [], _ :: _, h, _, _ => by cases h
  | _ :: _, [], h, _, _ => by cases h
/-! ### o[i] = e, o.f = e -/
theorem ss_setI {pos' : Pos} (he : SO X T W e oa) (ho : SO X T W a ob) (hi : SO X T W b oc) (hs : swapsWithSole [.Subscript a b pos'] e pos.line X.env = pure false := by rfl) (hw : swappedStores [.Subscript a b pos'] e X.env = pure none := by rfl)
    (h1 : (assignEach [.Subscript a b pos'] X.env).map (·.2) = [assign (.Subscript a b pos') X.env] := by rfl)
    (hass : ∀ v, assign (.Subscript a b pos') X.env v = (do
      let ov ← holding [v] (eval a X.env)
      let iv ← holding [v, ov] (eval b X.env)
      standAt pos'
      holding [v, ov, iv] (setItem ov iv v)
      release [v, ov, iv] []) := by intro _; rfl) : SS X T W (.Assign [.Subscript a b pos'] e pos) (mN [oa, ob, oc] gSetI) :=
  PS.imp (ps_asg he (pg_sub ho hi set_list hass) hs hw h1) fun D σ H ⟨φ, s, rel, h⟩ =>
    opsS rel h (fun _ z => z) (fun xs H1 => rSetL (xs.getD 1 .non) (xs.getD 2 .non) (xs.getD 0 .non) H1 fun H2 => D.nx σ H2) fun xs H1 φ1 s1 rs A l1 l2 rel1 al hA hT hp => by
      match rs, xs, l1, l2, al, hp, hT with
      | [r1, r2, r3], [x, y, z], _, _, al, hp, hT =>
        obtain ⟨a1, ⟨a2, ⟨a3, _⟩, _⟩, _⟩ := al
        unfold gSetI at hp
        split at hp
        · rename_i x0 n i e0
          simp only [List.cons.injEq, and_true] at e0
          obtain ⟨e1, e2, e3⟩ := e0
          subst e1 e2 e3
          split at hp
          · rename_i vs hn
            split at hp
            · rename_i j hj
              obtain ⟨p, rfl, hpn⟩ := Rv.ref_inv a2
              cases rel1.obj n p _ hpn hn with
              | lst b1 b2 =>
                rename_i zs
                have x1 : Ext (Mi φ1 s1.env σ) H1 (Mi φ1 s1.env σ) (upd H1 p (.lst (zs.set j x))) := Ext.write (.inl (List.mem_of_getElem? hpn)) b1 rfl
                obtain ⟨rel2, ex⟩ := rel1.wr (u := .lst (zs.set j x)) (o' := .lst (vs.set j x0)) (fun _ z => nomatch z) hpn hn b1 (.lst upd_same ((RvL.setAt b2 a1 j).ext (List.prefix_refl _) x1))
                exact ⟨p, zs, i, j, rfl, Rv.int_inv a3, b1, by rw [← b2.length]; exact hj, hp φ1 _ σ (List.prefix_refl _) (ex.weak hA fun _ z => .inl z) rel2⟩
            · exact (show False from hp).elim
          · exact (show False from hp).elim
        · exact (show False from hp).elim
theorem putI_keys (f : Str) (v : IV) (w : V) : ∀ {fs : List (Str × IV)} {ys : List (Str × V)}, fs.map (·.1) = ys.map (·.1) → (putI f v fs).map (·.1) = (putF f w ys).map (·.1)
  | [], [], _ => rfl
  | (g, x) :: fs, (g', y) :: ys, e => by
    simp only [List.map_cons, List.cons.injEq] at e
    obtain ⟨rfl, e⟩ := e
    show (if g = f then (g, v) :: fs else (g, x) :: putI f v fs).map (·.1) = (putF f w ((g, y) :: ys)).map (·.1)
    have := putI_keys f v w e
    by_cases h : g = f
    · simp [putF, h, e]
    · simp [putF, h, this]
  | [], _ :: _, e => by cases e
  | _ :: _, [], e => by cases e
theorem putI_vals {K : PySem.W.Frag} {φ : List Addr} {H : Hp} (f : Str) {v : IV} {w : V} (r : Rv K φ H v w) : ∀ {fs : List (Str × IV)} {ys : List (Str × V)}, fs.map (·.1) = ys.map (·.1) → RvL K φ H (fs.map (·.2)) (ys.map (·.2)) → RvL K φ H ((putI f v fs).map (·.2)) ((putF f w ys).map (·.2))
  | [], [], _, _ => r
  | (g, x) :: fs, (g', y) :: ys, e, h => by
    simp only [List.map_cons, List.cons.injEq] at e
    obtain ⟨rfl, e⟩ := e
    have h : RvL K φ H (x :: fs.map (·.2)) (y :: ys.map (·.2)) := h
    have t := putI_vals f r e h.tail
    by_cases q : g = f
    · have e1 : putI f v ((g, x) :: fs) = (g, v) :: fs := by simp [putI, q]
      have e2 : putF f w ((g, y) :: ys) = (g, w) :: ys := by simp [putF, q]
      rw [e1, e2]
      exact .cons r h.tail
    · have e1 : putI f v ((g, x) :: fs) = (g, x) :: putI f v fs := by simp [putI, q]
      have e2 : putF f w ((g, y) :: ys) = (g, y) :: putF f w ys := by simp [putF, q]
      rw [e1, e2]
      exact .cons h.head t
  | [], _ :: _, e, _ => by cases e
  | _ :: _, [], e, _ => by cases e
theorem ss_setF {cs : List Str} {f : Str} {pos' : Pos} (hc : ∀ c ∈ cs, Cls X.K (cA X.K c) ∧ NoAttr X.K (cA X.K c) f) (ho : SO X T W a ob) (he : SO X T W e oa) (hs : swapsWith e (some (.Attribute a f pos')) pos.line X.env = pure false := by rfl) :
    SS X T W (.Assign [.Attribute a f pos'] e pos) (mN [oa, ob] (gSetF cs f)) :=
  PS.imp (ps_fld ho he hs) fun D σ H ⟨φ, s, rel, h⟩ =>
    opsS rel h (fun _ z => z) (fun xs H2 => ∃ a C dx fs, xs.getD 1 .non = .ref a ∧ H2 a = some (.ins C dx fs) ∧ Cls X.K C ∧ NoAttr X.K C f ∧ fs.length < 1000 ∧ D.nx σ (upd H2 a (.ins C dx (putF f (xs.getD 0 .non) fs)))) fun xs H1 φ1 s1 rs A l1 l2 rel1 al hA hT hp => by
      match rs, xs, l1, l2, al, hp, hT with
      | [r1, r2], [x, y], _, _, al, hp, hT =>
        obtain ⟨a1, ⟨a2, _⟩, _⟩ := al
        unfold gSetF at hp
        split at hp
        · rename_i x0 n e0
          simp only [List.cons.injEq, and_true] at e0
          obtain ⟨e1, e2⟩ := e0
          subst e1 e2
          split at hp
          · rename_i c fs hn
            split at hp
            · rename_i hcs
              simp only [Bool.and_eq_true, decide_eq_true_eq] at hcs
              obtain ⟨p, rfl, hpn⟩ := Rv.ref_inv a2
              cases rel1.obj n p _ hpn hn with
              | ins b1 k1 b2 =>
                rename_i dx ys
                have x1 : Ext (Mi φ1 s1.env σ) H1 (Mi φ1 s1.env σ) (upd H1 p (.ins (cA X.K c) dx (putF f x ys))) := Ext.write (.inl (List.mem_of_getElem? hpn)) b1 rfl
                obtain ⟨rel2, ex⟩ := rel1.wr (u := .ins (cA X.K c) dx (putF f x ys)) (o' := .ins c (putI f x0 fs)) (fun _ z => nomatch z) hpn hn b1 (.ins upd_same (putI_keys f _ _ k1) ((putI_vals f a1 k1 b2).ext (List.prefix_refl _) x1))
                have ll : ys.length = fs.length := by
                  have := congrArg List.length k1
                  simpa using this.symm
                exact ⟨p, _, dx, ys, rfl, b1, (hc c hcs.1).1, (hc c hcs.1).2, by rw [ll]; exact hcs.2, hp φ1 _ σ (List.prefix_refl _) (ex.weak hA fun _ z => .inl z) rel2⟩
            · exact (show False from hp).elim
          · exact (show False from hp).elim
        · exact (show False from hp).elim
end
end Py

set_option Elab.async false
set_option linter.all false
set_option maxRecDepth 100000
set_option maxHeartbeats 4000000
/-! P10: append; targets; for loops. -/
namespace Py
open PySem PySem.Spec PyProof.Rows L2
section
variable {X : Cx} {T : Tp} {W : WX} {e a b : Expr} {oa ob oc : Opd} {m : M RV} {pos : Pos}
theorem i_app {i : Nat} {σ : L2.St} {H : Hp} {Q : VK} (h : tE X.K T W (mApp i m) σ H Q) : tBM X.K "list" rAppend (tVar i) (tCons (tE X.K T W m) tNil) σ H Q := by
  obtain ⟨φ, s, rel, hp⟩ := h
  unfold mApp at hp
  split at hp
  · rename_i vs0 e0
    obtain ⟨p, xs0, e1, e2, _, mp, _⟩ := rel.wrS (vs' := []) e0
    refine ⟨_, e1, .inl ⟨rfl, xs0, .inl (.inl e2)⟩, ⟨φ, s, rel, (hp.bind (R1 := Rr X.K T) (Tm1 := Tm) fun _ z => z).mono fun y H1 hx => ?_⟩⟩
    obtain ⟨φ1, s1, r, er, pr, ex, rel1, rr, hp⟩ := hx
    split at hp
    · rename_i x s2 hb
      obtain ⟨φ2, pr2, rel2, rv, en, mi2⟩ := boxV_ok rel1 rr hb
      split at hp
      · rename_i vs hv
        split at hp
        · rename_i hz
          obtain ⟨p', xs, f1, f2, f3, mp', wr⟩ := rel2.wrS (vs' := vs ++ [x]) hv
          rw [e1] at f1
          cases f1
          obtain ⟨rel3, ex3, mi3⟩ := wr (xs ++ [y]) (f3.append (RvL.cons rv .nil))
          refine ⟨p, xs, y, rfl, rfl, f2, by rw [← f3.length]; exact Nat.lt_of_lt_of_le (of_decide_eq_true hz) (by decide), ?_⟩
          refine hp φ2 _ .non pr2 (ex3.weak (C := fun p => Mi φ s.env σ p ∨ (Mi φ1 s1.env σ p ∨ Tm r y p)) (fun a z => .inr (mi2 a z)) fun a z => ?_) rel3 Rv.non
          rcases z with z | z
          · exact .inl (mi3 a z)
          · exact (show False from z).elim
        · exact (show False from hp).elim
      · exact (show False from hp).elim
    · exact (show False from hp).elim
  · rename_i n e0
    split at hp
    · rename_i vs0 hn
      obtain ⟨v0, e1, e2⟩ := rel.slot i _ e0
      obtain ⟨p, rfl, hpn⟩ := Rv.ref_inv e2
      have hlst : ∃ xs0, H p = some (.lst xs0) := by
        cases rel.obj n p _ hpn hn with
        | lst b1 b2 => exact ⟨_, b1⟩
      obtain ⟨xs0, b0⟩ := hlst
      refine ⟨_, e1, .inl ⟨rfl, xs0, .inl (.inl b0)⟩, ⟨φ, s, rel, (hp.bind (R1 := Rr X.K T) (Tm1 := Tm) fun _ z => z).mono fun y H1 hx => ?_⟩⟩
      obtain ⟨φ1, s1, r, er, pr, ex, rel1, rr, hp⟩ := hx
      split at hp
      · rename_i x s2 hb
        obtain ⟨φ2, pr2, rel2, rv, en, mi2⟩ := boxV_ok rel1 rr hb
        split at hp
        · rename_i vs hv
          split at hp
          · rename_i hz
            have hpn2 := pre_get (pr.trans pr2) hpn
            cases rel2.obj n p _ hpn2 hv with
            | lst f2 f3 =>
              rename_i xs
              have x1 : Ext (Mi φ2 s2.env σ) H1 (Mi φ2 s2.env σ) (upd H1 p (.lst (xs ++ [y]))) := Ext.write (.inl (List.mem_of_getElem? hpn2)) f2 rfl
              obtain ⟨rel3, ex3⟩ := rel2.wr (u := .lst (xs ++ [y])) (o' := .lst (vs ++ [x])) (fun _ z => nomatch z) hpn2 hv f2 (.lst upd_same ((f3.append (RvL.cons rv .nil)).ext (List.prefix_refl _) x1))
              refine ⟨p, xs, y, rfl, rfl, f2, by rw [← f3.length]; exact Nat.lt_of_lt_of_le (of_decide_eq_true hz) (by decide), ?_⟩
              refine hp φ2 _ .non pr2 (ex3.weak (C := fun p => Mi φ s.env σ p ∨ (Mi φ1 s1.env σ p ∨ Tm r y p)) (fun a z => .inr (mi2 a z)) fun a z => ?_) rel3 Rv.non
              rcases z with z | z
              · exact .inl z
              · exact (show False from z).elim
          · exact (show False from hp).elim
        · exact (show False from hp).elim
      · exact (show False from hp).elim
    · exact (show False from hp).elim
  · exact (show False from hp).elim
theorem se_app {i : Nat} {x : Str} {p apos cpos : Pos} (hN : X.N[i]? = some x) (hv : Vis X.env.scope x) (ha : SE X T W e m) (hd : (x == ("__debug__" : Str)) = false := by decide) (hcd : (x == ("__classdict__" : Str)) = false := by decide)
    (hbase : attributeBase (.Name x p) "append" X.env (eval (.Name x p) X.env) = eval (.Name x p) X.env := by rfl)
    (hfew : ((backTo cpos (starEach [e] X.env)).all (fun x => !x.1) && (backToKw cpos (keywordEach [] X.env)).all (fun x => x.1.isSome)
      && decide ([e].length + ([] : List Keyword).length + (if ([] : List Keyword).isEmpty then 0 else 1) < 30)) = true := by rfl)
    (hline : (apos.endLine == cpos.line) = true := by rfl) (hs : starEach [e] X.env = (false, eval e X.env) :: starEach [] X.env := by rfl) (hplain : (backTo cpos (starEach [] X.env)).any (·.1) = false := by rfl) :
    SE X T W (.Call (.Attribute (.Name x p) "append" apos) [e] [] cpos) (mApp i m) :=
  PE.imp (pe_bm F.plainAttrs_list F.slot_list_append F.type_list_append mt_append (pe_var hN hv hd hcd) (pa_cons ha pa_nil hs) hbase hfew hline hs hplain) fun σ H Q h => i_app h

/-! ### targets -/
def tG (K : PySem.W.Frag) (T : Tp) (is : List Nat) (p : IV → S → Option S) : TG := fun v σ H Q => ∃ x φ s s', Rel K T φ σ H s ∧ Rv K φ H x v ∧ p x s = some s' ∧
  ∀ σ', σ'.length = σ.length → (∀ j, j ∉ is → σ'[j]? = σ[j]?) → Rel K T φ σ' H s' → (∀ a, Mi φ s'.env σ' a → Mi φ s.env σ a) → Q σ' H
def tGs (K : PySem.W.Frag) (T : Tp) (is : List Nat) : TGs := fun vs σ H Q => ∃ xs φ s env', Rel K T φ σ H s ∧ RvL K φ H xs vs ∧ setNs is xs s.env = some env' ∧
  ∀ σ', σ'.length = σ.length → (∀ j, j ∉ is → σ'[j]? = σ[j]?) → Rel K T φ σ' H ⟨env', s.hp⟩ → (∀ a, Mi φ env' σ' a → Mi φ s.env σ a) → Q σ' H
abbrev SG (X : Cx) (T : Tp) (tg : Expr) (is : List Nat) (p : IV → S → Option S) : Prop := PG X tg (tG X.K T is p)
abbrev SGs (X : Cx) (T : Tp) (tgs : List Expr) (is : List Nat) : Prop := PGs X tgs (tGs X.K T is)
theorem PG.imp {e : Expr} {t t' : TG} (h : PG X e t) (i : ∀ v σ H Q, t' v σ H Q → t v σ H Q) : PG X e t' := ⟨fun pins s σ H v u Q I r hw => h.run pins s σ H v u Q I r (i v σ H Q hw)⟩
theorem PGs.imp {e : List Expr} {t t' : TGs} (h : PGs X e t) (i : ∀ v σ H Q, t' v σ H Q → t v σ H Q) : PGs X e t' := ⟨fun pins s σ H v u Q I r hw => h.run pins s σ H v u Q I r (i v σ H Q hw)⟩
theorem keep_set {σ : L2.St} {i : Nat} {v : V} : (σ.set i (some v)).length = σ.length ∧ ∀ j, j ∉ [i] → (σ.set i (some v))[j]? = σ[j]? :=
  ⟨List.length_set, fun j hj => List.getElem?_set_ne fun z => hj (by simp [z])⟩
theorem sg_nm {i : Nat} {x : Str} (hN : X.N.Nodup) (hi : X.N[i]? = some x) (hx : Loc X.env.scope x) (hf : X.fn x = true ∨ X.env.scope.names.lookup x = some .local := by first | exact .inl rfl | exact .inr rfl | assumption) : SG X T (.Name x pos) [i] (setN i) :=
  PG.imp (pg_name hN hi hx hf) fun v σ H Q ⟨x, φ, s, s', rel, rv, e, h⟩ => by
    cases e
    exact h _ keep_set.1 keep_set.2 (rel.set (r := .v x) rv fun _ z => nomatch z) fun a m => (mi_set m).elim id fun z => (show False from z).elim
theorem sgs_nil : SGs X T [] [] := PGs.imp pgs_nil fun vs σ H Q ⟨xs, φ, s, env', rel, rv, e, h⟩ => by
  cases xs with
  | nil =>
    cases e
    exact ⟨rv.inv_nil, h σ rfl (fun _ _ => rfl) rel fun _ z => z⟩
  | cons x xs => cases e
theorem sgs_cons {i : Nat} {is : List Nat} {x : Str} {es : List Expr} (hN : X.N.Nodup) (hi : X.N[i]? = some x) (hx : Loc X.env.scope x) (t : SGs X T es is) (hf : X.fn x = true ∨ X.env.scope.names.lookup x = some .local := by first | exact .inl rfl | exact .inr rfl | assumption)
    (hs : (assignEach (.Name x pos :: es) X.env).map (·.2) = assign (.Name x pos) X.env :: (assignEach es X.env).map (·.2) := by rfl) : SGs X T (.Name x pos :: es) (i :: is) :=
  PGs.imp (pgs_cons (pg_name hN hi hx hf) t hs) fun vs σ H Q ⟨xs, φ, s, env', rel, rv, e, h⟩ => by
    cases xs with
    | nil => cases e
    | cons y xs =>
      obtain ⟨v, r, rfl, r1, r2⟩ := rv.inv_cons
      have rel2 := rel.set (i := i) (r := .v y) (v := v) r1 fun _ z => nomatch z
      refine ⟨v, r, rfl, xs, φ, _, env', rel2, r2, e, fun σ' l1 k1 rel' mi => h σ' ?_ ?_ rel' ?_⟩
      · rw [l1, List.length_set]
      · intro j hj
        rw [k1 j fun z => hj (List.mem_cons_of_mem _ z)]
        exact List.getElem?_set_ne fun z => hj (by simp [z])
      · exact fun a m => (mi_set (mi a m)).elim id fun z => (show False from z).elim
theorem setNs_len : ∀ {is : List Nat} {xs : List IV} {env env' : List (Option RV)}, setNs is xs env = some env' → xs.length = is.length
  | [], [], _, _, _ => rfl
  | i :: is, x :: xs, env, env', e => congrArg (· + 1) (setNs_len (is := is) (xs := xs) e)
  | [], _ :: _, _, _, e => by cases e
  | _ :: _, [], _, _, e => by cases e
theorem sg_tup {is : List Nat} {es : List Expr} {k : Nat} (hc : X.calm = true) (t : SGs X T es is) (hn : (assignEach es X.env).length = is.length := by rfl) (hst : (assignEach es X.env).findIdx? (·.1) = none := by rfl) : SG X T (.Tuple es k pos) is (setT is) :=
  PG.imp (pg_tup (n := is.length) hc t hn hst) fun v σ H Q ⟨x, φ, s, s', rel, rv, e, h⟩ => by
    unfold setT at e
    split at e
    · rename_i xs
      obtain ⟨env', e1, e2⟩ := Option.map_eq_some_iff.mp e
      cases e2
      obtain ⟨p, ys, rfl, sq, r⟩ := Rv.tup_inv rv
      exact ⟨p, ys, rfl, sq, by rw [← r.length, setNs_len e1], xs, φ, s, env', rel, r, e1, h⟩
    · cases e
theorem ss_asg {tg : Expr} {is : List Nat} {p : IV → S → Option S} (he : SE X T W e m) (hg : SG X T tg is p) (hs : swapsWithSole [tg] e pos.line X.env = pure false := by rfl) (hw : swappedStores [tg] e X.env = pure none := by rfl)
    (h1 : (assignEach [tg] X.env).map (·.2) = [assign tg X.env] := by rfl) : SS X T W (.Assign [tg] e pos) (mAsg p m) :=
  PS.imp (ps_asg he hg hs hw h1) fun D σ H ⟨φ, s, rel, h⟩ => tE_mono (tE_S rel (fun _ z => z) h) fun v H1 ⟨φ1, s1, rv, _, pr, rel1, rr, hp⟩ => by
    cases rv with
    | v x =>
      cases q : p x s1 with
      | none =>
        simp only [q] at hp
        exact (show False from hp).elim
      | some s2 =>
        simp only [q] at hp
        exact ⟨x, φ1, s1, s2, rel1, rr, q, fun σ' l k rel2 mi => hp φ1 H1 σ' (List.prefix_refl _) (Ext.refl.less fun a z => .inr (.inl (mi a z))) rel2⟩
    | l x => exact (show False from hp).elim
    | f x => exact (show False from hp).elim
    | z x => exact (show False from hp).elim
end

/-! ### what a loop walks -/
abbrev Src := S → Option (List IV)
def SrcR (K : PySem.W.Frag) (T : Tp) (is : List Nat) (φ : List Addr) (env : List (Option RV)) (σ : L2.St) (H : Hp) (src : Src) (J : It) : Prop :=
  ∀ φ' s' σ' H' vs, φ <+: φ' → Ext (Mi φ env σ) H (Mi φ' s'.env σ') H' → Rel K T φ' σ' H' s' → (∀ i ∈ is, σ'[i]? = σ[i]?) → src s' = some vs →
    (∀ k x, vs[k]? = some x → J.go k H' ∧ ∀ v H'', J.yld k H' v H'' → Ext (Mi φ' s'.env σ') H' (Mi φ' s'.env σ') H'' ∧ Rel K T φ' σ' H'' s' ∧ Rv K φ' H'' x v) ∧ J.stop vs.length H'
def tI (K : PySem.W.Frag) (T : Tp) (W : WX) (is : List Nat) (mi : S → Rs Src) : TI := fun σ H R => ∃ φ s, Rel K T φ σ H s ∧ Post K T W (SrcR K T is) (fun _ _ _ => False) (Mi φ s.env σ) φ σ H (mi s) R
abbrev SI (X : Cx) (T : Tp) (W : WX) (tg iter : Expr) (is : List Nat) (mi : M Src) : Prop := PI X tg iter (tI X.K T W is mi)
theorem PI.imp {X : Cx} {tg e : Expr} {t t' : TI} (h : PI X tg e t) (i : ∀ σ H R, t' σ H R → t σ H R) : PI X tg e t' := ⟨fun pins s σ H R I hw => h.run pins s σ H R I (i σ H R hw)⟩
/-- the loop, m turns left of n -/
def forL (src : Src) (n : Nat) (p : IV → S → Option S) (body : M Fl) : Nat → M Fl
  | 0 => fun s => match src s with
    | some vs => (match decide (vs.length = n) with
      | true => .ok .nx s
      | false => .bad)
    | none => .bad
  | m + 1 => fun s => match src s with
    | some vs => (match decide (vs.length = n), vs[n - (m + 1)]? with
      | true, some x => (match p x s with
        | some s1 => (body s1).bind fun f s2 => match f with
          | .nx => forL src n p body m s2
          | .ct => forL src n p body m s2
          | .bk => .ok .nx s2
          | .rt r => .ok (.rt r) s2
        | none => .bad)
      | _, _ => .bad)
    | none => .bad
def mFor (mi : M Src) (p : IV → S → Option S) (body : M Fl) : M Fl := fun s => (mi s).bind fun src s1 => match src s1 with
  | some vs => forL src vs.length p body vs.length s1
  | none => .bad
theorem ss_for {X : Cx} {T : Tp} {W : WX} {tg iter : Expr} {body : List Stmt} {mi : M Src} {is : List Nat} {p : IV → S → Option S} {mb : M Fl} {pos : Pos} (hp : PassesOwn (model X.prog X.w) X.A X.env X.xe) (hc : X.calm = true) (hi : SI X T W tg iter [] mi) (hg : SG X T tg is p) (hb : SB X T W body mb)
    (hs : ∀ x, foldedSetIterable iter X.env x = pure x := by intro _; rfl) : SS X T W (.For tg iter body [] pos) (mFor mi p mb) :=
  PS.imp (ps_for hp hc hi hg hb hs) fun D σ H ⟨φ, s, rel, h⟩ => by
    refine ⟨φ, s, rel, (Post_S (R1 := SrcR X.K T []) (Tm1 := fun _ _ _ => False) (A0 := Mi φ s.env σ) h fun _ z => z).mono fun J H1 ⟨φ1, s1, src, _, pr, ex, rel1, hJ, hp⟩ => ?_⟩
    cases q : src s1 with
    | none =>
      simp only [q] at hp
      exact (show False from hp).elim
    | some vs =>
      simp only [q] at hp
      generalize hn : vs.length = n at hp
      refine ⟨fun i m σ' H' => i + m = n ∧ ∃ φ' s', φ1 <+: φ' ∧ Ext (Mi φ1 s1.env σ) H1 (Mi φ' s'.env σ') H' ∧ Rel X.K T φ' σ' H' s' ∧ PostS X.K T W (Mi φ' s'.env σ') φ' H' (forL src n p mb m s') D,
        ⟨n, by omega, φ1, s1, List.prefix_refl _, Ext.refl, rel1, hp.weak fun p z => .inr (.inl z)⟩, ?_⟩
      rintro i m σ' H' ⟨him, φ', s', pr', ex', rel', hp'⟩
      cases m with
      | zero =>
        unfold forL at hp'
        cases q' : src s' with
        | none =>
          simp only [q'] at hp'
          exact (show False from hp').elim
        | some vs' =>
          simp only [q'] at hp'
          split at hp'
          · rename_i hl
            have hl := of_decide_eq_true hl
            have e : vs'.length = i := by omega
            exact .inl ⟨e ▸ (hJ φ' s' σ' H' vs' pr' ex' rel' (fun _ z => by cases z) q').2, hp'.nx rel' fun _ z => z⟩
          · exact (show False from hp').elim
      | succ m =>
        unfold forL at hp'
        cases q' : src s' with
        | none =>
          simp only [q'] at hp'
          exact (show False from hp').elim
        | some vs' =>
          simp only [q'] at hp'
          split at hp'
          · rename_i x hl hx
            have hl := of_decide_eq_true hl
            have hi : n - (m + 1) = i := by omega
            rw [hi] at hx
            obtain ⟨go, yl⟩ := (hJ φ' s' σ' H' vs' pr' ex' rel' (fun _ z => by cases z) q').1 i x hx
            refine .inr ⟨go, fun σ3 H3 => (i + 1) + m = n ∧ ∃ φ3 s3, φ1 <+: φ3 ∧ Ext (Mi φ1 s1.env σ) H1 (Mi φ3 s3.env σ3) H3 ∧ Rel X.K T φ3 σ3 H3 s3 ∧ PostS X.K T W (Mi φ3 s3.env σ3) φ3 H3 (forL src n p mb m s3) D, fun σ3 H3 z => ⟨m, by omega, z⟩, fun v H2 y => ?_⟩
            obtain ⟨x2, rel2, rv2⟩ := yl v H2 y
            split at hp'
            · rename_i s2 hs2
              refine ⟨x, φ', s', s2, rel2, rv2, hs2, fun σ2 l2 k2 rel3 mi2 => ⟨φ', s2, rel3, ?_⟩⟩
              have hw := (hp'.shift (List.prefix_refl _) x2).weak mi2
              cases qb : mb s2 with
              | bad =>
                rw [qb] at hw
                exact hw
              | exn c fs s3 =>
                rw [qb] at hw
                exact hw
              | ok f s3 =>
                rw [qb] at hw
                have again : ∀ φ3 H3 σ3, φ' <+: φ3 → Ext (Mi φ' s2.env σ2) H2 (Mi φ3 s3.env σ3) H3 → Rel X.K T φ3 σ3 H3 s3 → PostS X.K T W (Mi φ' s2.env σ2) φ' H2 (forL src n p mb m s3) D →
                    (i + 1) + m = n ∧ ∃ φ3 s3, φ1 <+: φ3 ∧ Ext (Mi φ1 s1.env σ) H1 (Mi φ3 s3.env σ3) H3 ∧ Rel X.K T φ3 σ3 H3 s3 ∧ PostS X.K T W (Mi φ3 s3.env σ3) φ3 H3 (forL src n p mb m s3) D := fun φ3 H3 σ3 pr3 ex3 rel3 hh =>
                  ⟨by omega, φ3, s3, pr'.trans pr3, ex'.trans ((x2.less mi2).trans ex3), rel3, hh.shift pr3 ex3⟩
                cases f with
                | nx => exact fun φ3 H3 σ3 pr3 ex3 rel3 => again φ3 H3 σ3 pr3 ex3 rel3 hw
                | ct => exact fun φ3 H3 σ3 pr3 ex3 rel3 => again φ3 H3 σ3 pr3 ex3 rel3 hw
                | bk => exact fun φ3 H3 σ3 pr3 ex3 rel3 => hw φ3 H3 σ3 pr3 ex3 rel3
                | rt r => exact fun φ3 H3 σ3 v pr3 ex3 rel3 rr => hw φ3 H3 σ3 v pr3 ex3 rel3 rr
            · exact (show False from hp').elim
          · exact (show False from hp').elim
end Py

set_option Elab.async false
set_option linter.all false
set_option maxRecDepth 100000
set_option maxHeartbeats 4000000
/-! P11: list and dict comprehensions. -/
namespace Py
open PySem PySem.Spec PyProof.Rows L2
def WF : WX := fun _ _ _ _ => False
def clr : List Nat → List (Option RV) → List (Option RV)
  | [], e => e
  | i :: is, e => (clr is e).set i none
def own0 (own : List Nat) (s : S) : Bool := own.all fun i => match s.env[i]? with
  | some (some _) => false
  | _ => true
def clrS (own : List Nat) (s : S) : S := ⟨clr own s.env, s.hp⟩
def mTrue : M Bool := fun s => .ok true s
/-- the block, m turns left of n -/
def lcL (src : Src) (n : Nat) (own : List Nat) (p : IV → S → Option S) (c : M Bool) (e : M RV) : Nat → List IV → M RV
  | 0, acc => fun s => match src s with
    | some vs => (match decide (vs.length = n) with
      | true => .ok (.l acc) s
      | false => .bad)
    | none => .bad
  | m + 1, acc => fun s => match src s with
    | some vs => (match decide (vs.length = n), vs[n - (m + 1)]? with
      | true, some x => (match p x s with
        | some s1 => (match c s1 with
          | .ok true s2 => (match e s2 with
            | .ok r s3 => (match boxV r s3 with
              | some (y, s4) => lcL src n own p c e m (acc ++ [y]) (clrS own s4)
              | none => .bad)
            | _ => .bad)
          | .ok false s2 => lcL src n own p c e m acc (clrS own s2)
          | _ => .bad)
        | none => .bad)
      | _, _ => .bad)
    | none => .bad
def mLc (own : List Nat) (mi : M Src) (p : IV → S → Option S) (c : M Bool) (e : M RV) : M RV := fun s => (mi s).bind fun src s1 => match src s1 with
  | some vs => (match own0 own s1 && decide (vs.length ≤ 100000) with
    | true => lcL src vs.length own p c e vs.length [] s1
    | false => .bad)
  | none => .bad
def putD (kvs : List (Key × IV)) (k : Key) (v : IV) : List (Key × IV) := match kvs.any fun q => decide (q.1 = k) with
  | true => kvs.map fun q => (q.1, if q.1 = k then v else q.2)
  | false => kvs ++ [(k, v)]
/-- keys and values of one's own: no new lists -/
def dcL (src : Src) (n : Nat) (own : List Nat) (p : IV → S → Option S) (c : M Bool) (ek ev : M RV) : Nat → List (Key × IV) → M RV
  | 0, acc => fun s => match src s with
    | some vs => (match decide (vs.length = n) with
      | true => .ok (.v (.ref s.hp.length)) ⟨s.env, s.hp ++ [.dct acc]⟩
      | false => .bad)
    | none => .bad
  | m + 1, acc => fun s => match src s with
    | some vs => (match decide (vs.length = n), vs[n - (m + 1)]? with
      | true, some x => (match p x s with
        | some s1 => (match c s1 with
          | .ok true s2 => (match ek s2 with
            | .ok k s3 => (match keyR k, ev s3 with
              | some q, .ok (.v y) s4 => dcL src n own p c ek ev m (putD acc q y) (clrS own s4)
              | _, _ => .bad)
            | _ => .bad)
          | .ok false s2 => dcL src n own p c ek ev m acc (clrS own s2)
          | _ => .bad)
        | none => .bad)
      | _, _ => .bad)
    | none => .bad
def mDc (own : List Nat) (mi : M Src) (p : IV → S → Option S) (c : M Bool) (ek ev : M RV) : M RV := fun s => (mi s).bind fun src s1 => match src s1 with
  | some vs => (match own0 own s1 && decide (vs.length ≤ 100000) with
    | true => dcL src vs.length own p c ek ev vs.length [] s1
    | false => .bad)
  | none => .bad

section
variable {K : PySem.W.Frag} {T : Tp} {W : WX} {φ φ1 : List Addr} {σ σ' : L2.St} {H H1 : Hp} {s s1 : S}
theorem Post.shift {α β : Type} {R : List Addr → List (Option RV) → L2.St → Hp → α → β → Prop} {Tm1 : α → β → Addr → Prop} {A B : Addr → Prop} {r : Rs α} {Q : β → Hp → Prop} (h : Post K T W R Tm1 A φ σ H r Q) (pr : φ <+: φ1) (x : Ext A H B H1) : Post K T W R Tm1 B φ1 σ H1 r Q := by
  cases r with
  | bad => exact h
  | exn c fs s' => exact fun φ' H' d pr' x' rel xf => h φ' H' d (pr.trans pr') (x.trans x') rel xf
  | ok a s1 => exact fun φ' H' b pr' x' rel rr => h φ' H' b (pr.trans pr') (x.trans x') rel rr
theorem Post.weak {α β : Type} {R : List Addr → List (Option RV) → L2.St → Hp → α → β → Prop} {Tm1 : α → β → Addr → Prop} {A B : Addr → Prop} {r : Rs α} {Q : β → Hp → Prop} (h : Post K T W R Tm1 A φ σ H r Q) (hb : ∀ p, B p → A p) : Post K T W R Tm1 B φ σ H r Q := by
  cases r with
  | bad => exact h
  | exn c fs s' => exact fun φ' H' d pr' x' rel xf => h φ' H' d pr' (x'.weak hb fun _ z => .inl z) rel xf
  | ok a s1 => exact fun φ' H' b pr' x' rel rr => h φ' H' b pr' (x'.weak hb fun _ z => .inl z) rel rr
/-- the same at other slots that this frame's list does not tell of -/
theorem Rel.resig (rel : Rel K T φ σ H s) (hl : σ'.length = σ.length) (ha : ∀ (i : Nat) (r : RV), s.env[i]? = some (some r) → σ'[i]? = σ[i]?) : Rel K T φ σ' H s ∧ ∀ a, Mi φ s.env σ' a → Mi φ s.env σ a := by
  have sub : ∀ j a, Own s.env σ' j a → Own s.env σ j a := fun j a ⟨us, h1, h2⟩ => ⟨us, h1, (ha j _ h1).symm.trans h2⟩
  have mi : ∀ a, Mi φ s.env σ' a → Mi φ s.env σ a := fun a m => m.imp id fun ⟨j, o⟩ => ⟨j, sub j a o⟩
  refine ⟨⟨rel.nd, rel.len, rel.obj, fun i q e => ?_, fun i j p h1 h2 => rel.inj i j p (sub i p h1) (sub j p h2), rel.tab, fun b hb => ⟨(rel.bor b hb).1, fun m => (rel.bor b hb).2 (mi b m)⟩, by rw [hl]; exact rel.elen⟩, mi⟩
  cases q with
  | none => trivial
  | some q =>
    have z := rel.slot i _ e
    have es := ha i q e
    cases q with
    | v y =>
      obtain ⟨v, z1, z2⟩ := z
      exact ⟨v, es.trans z1, z2⟩
    | l vs =>
      obtain ⟨p, xs, z1, z2⟩ := z
      exact ⟨p, xs, es.trans z1, z2⟩
    | f vs =>
      obtain ⟨p, xs, z1, z2⟩ := z
      exact ⟨p, xs, es.trans z1, z2⟩
    | z vs =>
      obtain ⟨p, xs, z1, z2⟩ := z
      exact ⟨p, xs, es.trans z1, z2⟩
theorem clr_len : ∀ {own : List Nat} {e : List (Option RV)}, (clr own e).length = e.length
  | [], _ => rfl
  | i :: is, e => by
    unfold clr
    rw [List.length_set]
    exact clr_len
theorem clr_some {own : List Nat} {e : List (Option RV)} {i : Nat} {r : RV} (h : (clr own e)[i]? = some (some r)) : e[i]? = some (some r) ∧ i ∉ own := by
  induction own with
  | nil => exact ⟨h, by simp⟩
  | cons v vs ih =>
    unfold clr at h
    by_cases hi : v = i
    · subst hi
      by_cases hv : v < (clr vs e).length
      · rw [List.getElem?_set_self hv] at h; cases h
      · rw [List.getElem?_eq_none (by simpa using hv)] at h; cases h
    · rw [List.getElem?_set_ne hi] at h
      obtain ⟨h1, h2⟩ := ih h
      exact ⟨h1, by simp only [List.mem_cons, not_or]; exact ⟨fun e => hi e.symm, h2⟩⟩
theorem Rel.clr {own : List Nat} (rel : Rel K T φ σ H s) : Rel K T φ σ H (clrS own s) ∧ ∀ a, Mi φ (clrS own s).env σ a → Mi φ s.env σ a := by
  have sub : ∀ j a, Own (clrS own s).env σ j a → Own s.env σ j a := fun j a ⟨us, h1, h2⟩ => ⟨us, (clr_some h1).1, h2⟩
  have mi : ∀ a, Mi φ (clrS own s).env σ a → Mi φ s.env σ a := fun a m => m.imp id fun ⟨j, o⟩ => ⟨j, sub j a o⟩
  refine ⟨⟨rel.nd, rel.len, rel.obj, fun i q e => ?_, fun i j p h1 h2 => rel.inj i j p (sub i p h1) (sub j p h2), rel.tab, fun b hb => ⟨(rel.bor b hb).1, fun m => (rel.bor b hb).2 (mi b m)⟩, (clr_len).trans rel.elen⟩, mi⟩
  cases q with
  | none => trivial
  | some q =>
    have z := rel.slot i _ (clr_some e).1
    cases q <;> exact z
theorem own0_ok {own : List Nat} (h : own0 own s = true) {i : Nat} (hi : i ∈ own) {r : RV} : s.env[i]? ≠ some (some r) := fun e => by
  have := List.all_eq_true.mp h i hi
  rw [e] at this
  cases this
theorem own0_clr {own : List Nat} : own0 own (clrS own s) = true := by
  refine List.all_eq_true.mpr fun i hi => ?_
  cases q : (clrS own s).env[i]? with
  | none => rfl
  | some r =>
    cases r with
    | none => rfl
    | some r => exact absurd hi (clr_some q).2
theorem Rel.wipe {own : List Nat} (rel : Rel K T φ σ H s) (h : own0 own s = true) : Rel K T φ (L2.wipe σ own) H s ∧ ∀ a, Mi φ s.env (L2.wipe σ own) a → Mi φ s.env σ a :=
  rel.resig (wipe_length _ _) fun i r e => wipe_out fun z => own0_ok h z e
theorem Rel.unwipe {own : List Nat} (rel : Rel K T φ (L2.wipe σ own) H s) (h : own0 own s = true) : Rel K T φ σ H s ∧ ∀ a, Mi φ s.env σ a → Mi φ s.env (L2.wipe σ own) a :=
  rel.resig (wipe_length _ _).symm fun i r e => (wipe_out fun z => own0_ok h z e).symm
theorem wipe_in {own : List Nat} {i : Nat} (h : i ∈ own) : (L2.wipe σ own)[i]? = none ∨ (L2.wipe σ own)[i]? = some none := by
  cases q : (L2.wipe σ own)[i]? with
  | none => exact .inl rfl
  | some r =>
    cases r with
    | none => exact .inr rfl
    | some x => exact absurd h (wipe_some q).2
/-- the block's target and body have touched the block's names only -/
theorem wipe_same {own is : List Nat} {σ2 : L2.St} (hs : ∀ i ∈ is, i ∈ own) (hl : σ2.length = (L2.wipe σ own).length) (hk : ∀ j, j ∉ is → σ2[j]? = (L2.wipe σ own)[j]?) : L2.wipe σ2 own = L2.wipe σ own := by
  refine List.ext_getElem? fun i => ?_
  by_cases hi : i ∈ own
  · by_cases l : i < σ.length
    · have e1 : i < (L2.wipe σ2 own).length := by rw [wipe_length, hl, wipe_length]; exact l
      have e2 : i < (L2.wipe σ own).length := by rw [wipe_length]; exact l
      rcases wipe_in (σ := σ2) hi with q | q
      · rw [List.getElem?_eq_none_iff] at q; omega
      · rcases wipe_in (σ := σ) hi with q' | q'
        · rw [List.getElem?_eq_none_iff] at q'; omega
        · rw [q, q']
    · rw [List.getElem?_eq_none (by rw [wipe_length, hl, wipe_length]; omega), List.getElem?_eq_none (by rw [wipe_length]; omega)]
  · rw [wipe_out hi, hk i fun z => hi (hs i z)]
/-- a turn's end -/
theorem Rel.turn {own is : List Nat} {σ2 : L2.St} (rel : Rel K T φ σ2 H s) (hs : ∀ i ∈ is, i ∈ own) (hl : σ2.length = (L2.wipe σ own).length) (hk : ∀ j, j ∉ is → σ2[j]? = (L2.wipe σ own)[j]?) :
    Rel K T φ (L2.wipe σ own) H (clrS own s) ∧ ∀ a, Mi φ (clrS own s).env (L2.wipe σ own) a → Mi φ s.env σ2 a := by
  obtain ⟨r1, m1⟩ := rel.clr (own := own)
  obtain ⟨r2, m2⟩ := r1.resig (σ' := L2.wipe σ own) hl.symm fun i r e => (hk i fun z => (clr_some e).2 (hs i z)).symm
  exact ⟨r2, fun a m => m1 a (m2 a m)⟩
/-- something of nobody's beside -/
theorem Rel.out {D : Addr} {o u : HO} (rel : Rel K T φ σ H s) (ntu : ∀ ps, u ≠ .tbl ps) (hD : H D = some o) (n : ¬ Mi φ s.env σ D) (nb : D ∉ T.bor) (i : isImm o = false) (nt : ∀ ps, o ≠ .tbl ps) (nx : ∀ ψ, o ≠ .ext ψ) : Rel K T φ σ (upd H D u) s ∧ ∀ vs xs, RvL K φ H vs xs → RvL K φ (upd H D u) vs xs := by
  have x : Ext (fun a => a = D) H (fun a => a = D) (upd H D u)   := Ext.write rfl hD i ntu
  refine ⟨rel.stay x (fun a w m e => ?_) (fun a w m e => ?_) (tabs_wr rel.tab hD nt nx), fun vs xs r => r.ext (List.prefix_refl _) x⟩
  · rw [upd_ne (fun z => n (by rw [← z]; exact m))]; exact e
  · rw [upd_ne (fun z => nb (by rw [← z]; exact m))]; exact e
theorem Ext.over {A B : Addr → Prop} {D : Addr} {u : HO} (x : Ext A H B H1) (h : H D = none) : Ext A H B (upd H1 D u) where
  new := x.new
  keep := fun a o e n t => by rw [upd_ne (ne_of_none e h)]; exact x.keep a o e n t
  dom := fun a e => by
    by_cases q : a = D
    · rw [q]; exact Fr.of h
    · exact x.dom a (e.upd q)
  imm := fun a o e i => by rw [upd_ne (ne_of_none e h)]; exact x.imm a o e i
end
section
variable {X : Cx} {T : Tp} {W : WX} {elt tg iter : Expr} {ifs : List Expr} {scope : Scope} {own : List (Str × Nat)} {is js : List Nat} {mi : M Src} {p : IV → S → Option S} {c : M Bool} {e ek ev : M RV} {pos : Pos}
abbrev STs (X : Cx) (T : Tp) (W : WX) (ifs : List Expr) (c : M Bool) : Prop := PTs X ifs (tT X.K T W c)
theorem PTs.imp {X : Cx} {e : List Expr} {t t' : TT} (h : PTs X e t) (i : ∀ σ H Q, t' σ H Q → t σ H Q) : PTs X e t' := ⟨fun pins s σ H Q I hw => h.run pins s σ H Q I (i σ H Q hw)⟩
theorem sts_nil {X : Cx} : STs X T W [] mTrue := PTs.imp pts_nil fun σ H Q ⟨φ, s, rel, h⟩ => h φ H true (List.prefix_refl _) (Ext.refl.less fun p z => z.elim id fun z => z.elim) rel rfl
theorem sts_one {X : Cx} {t : Expr} (h : ST X T W t c) : STs X T W [t] c := pts_one h
theorem i_lc {vs : List Nat} {K : PySem.W.Frag} {σ : L2.St} {H : Hp} {Q : VK} (hjs : ∀ i ∈ js, i ∉ vs) (his : ∀ i ∈ is, i ∈ vs) (h : tE K T W (mLc vs mi p c e) σ H Q) :
    tLc (tI K T W js mi) (tG K T is p) (tT K T WF c) (tE K T WF e) vs σ H Q := by
  obtain ⟨φ, s, rel, h⟩ := h
  refine ⟨φ, s, rel, (h.bind (R1 := SrcR K T js) (Tm1 := fun _ _ _ => False) fun _ z => z).mono fun J H1 ⟨φ1, s1, src, _, pr, ex, rel1, hJ, hp⟩ D hD => ?_⟩
  cases q : src s1 with
  | none =>
    simp only [q] at hp
    exact (show False from hp).elim
  | some us =>
    simp only [q] at hp
    split at hp
    · rename_i hc
      simp only [Bool.and_eq_true, decide_eq_true_eq] at hc
      obtain ⟨h0, hn5⟩ := hc
      generalize hn : us.length = n at hp hn5
      obtain ⟨relw, miw⟩ := rel1.wipe h0
      obtain ⟨nD, bD⟩ := relw.fresh hD
      refine ⟨fun i m H' => i + m = n ∧ ∃ φ' s' acc xs, φ1 <+: φ' ∧ Ext (Mi φ1 s1.env σ) H1 (Mi φ' s'.env (wipe σ vs)) H' ∧ Rel K T φ' (wipe σ vs) H' s' ∧ own0 vs s' = true ∧ H' D = some (.lst xs) ∧ RvL K φ' H' acc xs ∧ acc.length ≤ i ∧ ¬ Mi φ' s'.env (wipe σ vs) D ∧
          Post K T W (Rr K T) Tm (fun a => Mi φ' s'.env (wipe σ vs) a ∨ a = D) φ' σ H' (lcL src n vs p c e m acc s') Q, ⟨n, by omega, φ1, s1, [], [], List.prefix_refl _, ?_, relw.alloc hD, h0, upd_same, .nil, Nat.le_refl _, nD, ?_⟩, ?_⟩
      · exact (Ext.refl.less miw).over hD
      · refine Post.shift hp (List.prefix_refl _) ((Ext.alloc (A := fun a => Mi φ s.env σ a ∨ (Mi φ1 s1.env σ a ∨ False)) hD).less fun a z => z.imp (fun z => .inr (.inl (miw a z))) id)
      · rintro i m H' ⟨him, φ', s', acc, xs, pr', ex', rel', o', hD', rv', la, nD', hp'⟩
        obtain ⟨relσ, miσ⟩ := rel'.unwipe o'
        have miw' := (relσ.wipe o').2
        have sl : ∀ i ∈ js, (wipe σ vs)[i]? = σ[i]? := fun i hi => wipe_out (hjs i hi)
        cases m with
        | zero =>
          unfold lcL at hp'
          cases q' : src s' with
          | none =>
            simp only [q'] at hp'
            exact (show False from hp').elim
          | some vs' =>
            simp only [q'] at hp'
            split at hp'
            · rename_i hl
              have hl := of_decide_eq_true hl
              have e : vs'.length = i := by omega
              refine .inl ⟨e ▸ (hJ φ' s' (wipe σ vs) H' vs' pr' ex' rel' sl q').2, hp' φ' H' (.ref D) (List.prefix_refl _) (Ext.refl.less fun a z => z.imp (miσ a) id) relσ ⟨D, xs, rfl, hD', fun m => nD' (miσ D m), bD, rv'⟩⟩
            · exact (show False from hp').elim
        | succ m =>
          unfold lcL at hp'
          cases q' : src s' with
          | none =>
            simp only [q'] at hp'
            exact (show False from hp').elim
          | some vs' =>
            simp only [q'] at hp'
            split at hp'
            · rename_i x hl hx
              have hl := of_decide_eq_true hl
              have hi : n - (m + 1) = i := by omega
              rw [hi] at hx
              obtain ⟨go, yl⟩ := (hJ φ' s' (wipe σ vs) H' vs' pr' ex' rel' sl q').1 i x hx
              refine .inr ⟨go, fun H3 => (i + 1) + m = n ∧ ∃ φ' s' acc xs, φ1 <+: φ' ∧ Ext (Mi φ1 s1.env σ) H1 (Mi φ' s'.env (wipe σ vs)) H3 ∧ Rel K T φ' (wipe σ vs) H3 s' ∧ own0 vs s' = true ∧ H3 D = some (.lst xs) ∧ RvL K φ' H3 acc xs ∧ acc.length ≤ i + 1 ∧ ¬ Mi φ' s'.env (wipe σ vs) D ∧
          Post K T W (Rr K T) Tm (fun a => Mi φ' s'.env (wipe σ vs) a ∨ a = D) φ' σ H3 (lcL src n vs p c e m acc s') Q, fun H3 z => ⟨m, by omega, z⟩, fun v H2 y => ?_⟩
              obtain ⟨x2, rel2, rv2⟩ := yl v H2 y
              split at hp'
              · rename_i s2 hs2
                refine ⟨x, φ', s', s2, rel2, rv2, hs2, fun σ2 l2 k2 rel3 mi2 => ⟨wipe_same his l2 k2, ?_⟩⟩
                have D2 : H2 D = some (.lst xs) := x2.keep D _ hD' nD' (fun _ z => nomatch z)
                have nD2 : ¬ Mi φ' s2.env σ2 D := fun z => nD' (mi2 D z)
                have e12 : Ext (Mi φ1 s1.env σ) H1 (Mi φ' s2.env σ2) H2 := (ex'.trans x2).less mi2
                have r2 := rv'.ext (List.prefix_refl _) x2
                have hw : Post K T W (Rr K T) Tm (fun a => Mi φ' s2.env σ2 a ∨ a = D) φ' σ H2 _ Q := (Post.shift hp' (List.prefix_refl _) (x2.weak (C := fun a => Mi φ' s'.env (wipe σ vs) a ∨ a = D) (D := fun a => Mi φ' s'.env (wipe σ vs) a ∨ a = D) (fun a z => .inl z) fun a z => .inr z)).weak fun a z => z.imp (mi2 a) id
                clear hp' yl go
                refine ⟨φ', s2, rel3, ?_⟩
                cases qc : c s2 with
                | bad =>
                  simp only [qc] at hw
                  exact (show False from hw).elim
                | exn c0 fs s3 =>
                  simp only [qc] at hw
                  exact (show False from hw).elim
                | ok k s3 =>
                  simp only [qc] at hw
                  intro φ3 H3 b pr3 ex3 rel4 hb
                  have hb : k = b := hb
                  subst hb
                  have D3 : H3 D = some (.lst xs) := ex3.keep D _ D2 nD2 (fun _ z => nomatch z)
                  have nD3 : ¬ Mi φ3 s3.env σ2 D := fun z => by
                    rcases ex3.new D (.inl z) with z | z
                    · exact nD2 z
                    · exact (z.lst D2).elim
                  have ex3' : Ext (Mi φ' s2.env σ2) H2 (Mi φ3 s3.env σ2) H3 := ex3.less fun a z => .inl z
                  have e13 := e12.trans ex3'
                  have r3 := r2.ext pr3 ex3
                  have hw3 : Post K T W (Rr K T) Tm (fun a => Mi φ3 s3.env σ2 a ∨ a = D) φ3 σ H3 _ Q := Post.shift hw pr3 (ex3'.weak (C := fun a => Mi φ' s2.env σ2 a ∨ a = D) (D := fun a => Mi φ3 s3.env σ2 a ∨ a = D) (fun a z => .inl z) fun a z => z.imp id fun z => .inr z)
                  clear hw
                  cases k with
                  | false =>
                    simp only [Bool.false_eq_true, if_false]
                    obtain ⟨r5, m5⟩ := rel4.turn his l2 k2
                    exact ⟨by omega, φ3, clrS vs s3, acc, xs, pr'.trans pr3, e13.less m5, r5, own0_clr, D3, r3, by omega, fun z => nD3 (m5 D z), hw3.weak fun a z => z.imp (m5 a) id⟩
                  | true =>
                    simp only [if_true]
                    refine ⟨φ3, s3, rel4, ?_⟩
                    dsimp only at hw3
                    cases qe : e s3 with
                    | bad =>
                      simp only [qe] at hw3
                      exact (show False from hw3).elim
                    | exn c0 fs s4 =>
                      simp only [qe] at hw3
                      exact (show False from hw3).elim
                    | ok r s4 =>
                      simp only [qe] at hw3
                      intro φ4 H4 yv pr4 ex4 rel5 rr
                      split at hw3
                      · rename_i y0 s5 hb5
                        obtain ⟨φ5, pr5, rel6, rv6, en, mi6⟩ := boxV_ok rel5 rr hb5
                        have D4 : H4 D = some (.lst xs) := ex4.keep D _ D3 nD3 (fun _ z => nomatch z)
                        have nD4 : ¬ Mi φ5 s5.env σ2 D := fun z => by
                          rcases ex4.new D (mi6 D z) with z | z
                          · exact nD3 z
                          · exact (z.lst D3).elim
                        have ex4' : Ext (Mi φ3 s3.env σ2) H3 (Mi φ5 s5.env σ2) H4 := ex4.less fun a z => mi6 a z
                        have r5 := r3.ext (pr4.trans pr5) ex4
                        obtain ⟨r7, m7⟩ := rel6.turn his l2 k2
                        have nD7 := fun z => nD4 (m7 D z)
                        obtain ⟨r8, f8⟩ := r7.out (u := .lst (xs ++ [yv])) (fun _ z => nomatch z) D4 nD7 bD rfl (fun _ z => nomatch z) (fun _ z => nomatch z)
                        refine ⟨xs, D4, ?_, by omega, φ5, clrS vs s5, acc ++ [y0], xs ++ [yv], pr'.trans (pr3.trans (pr4.trans pr5)), ((e13.trans ex4').less m7).over hD, r8, own0_clr, upd_same, f8 _ _ (r5.append (RvL.cons rv6 .nil)), by simp; omega, nD7, ?_⟩
                        · have := r5.length
                          exact Nat.lt_of_lt_of_le (show xs.length < 100000 by omega) (by decide)
                        · refine Post.shift hw3 (pr4.trans pr5) ((ex4'.weak (C := fun a => Mi φ3 s3.env σ2 a ∨ a = D) (D := fun a => Mi φ5 s5.env σ2 a ∨ a = D) (fun a z => .inl z) fun a z => z.imp id fun z => .inr z).trans ((Ext.write (A := fun a => Mi φ5 s5.env σ2 a ∨ a = D) (.inr rfl) D4 rfl).less fun a z => z.imp (m7 a) id))
                      · exact (show False from hw3).elim
              · exact (show False from hp').elim
            · exact (show False from hp').elim
    · exact (show False from hp).elim
theorem se_lc (hc : X.calm = true) (hN : X.N.Nodup) (ok : BlkOk X.N X.env.scope scope own) (hjs : ∀ i ∈ js, i ∉ own.map (·.2)) (his : ∀ i ∈ is, i ∈ own.map (·.2)) (hi : SI X T W tg iter js mi)
    (hg : ∀ (s : Shared) (H : Hp) (C : Addr) (cl : List (Str × Addr)) (fp : List Addr), SG (X.blk s H scope (compEnvC scope cl C X.env) fp) T tg is p) (ht : ∀ (s : Shared) (H : Hp) (C : Addr) (cl : List (Str × Addr)) (fp : List Addr), STs (X.blk s H scope (compEnvC scope cl C X.env) fp) T WF ifs c)
    (he : ∀ (s : Shared) (H : Hp) (C : Addr) (cl : List (Str × Addr)) (fp : List Addr), SE (X.blk s H scope (compEnvC scope cl C X.env) fp) T WF elt e) (hs : ∀ x, foldedSetIterable iter X.env x = pure x := by intro _; rfl) :
    SE X T W (.ListComp elt [⟨tg, iter, ifs, 0⟩] scope pos) (mLc (own.map (·.2)) mi p c e) :=
  PE.imp (pe_lc hc hN hi ok hg ht he hs) fun σ H Q h => i_lc hjs his h
theorem ss_setLc {i : Nat} {y : Str} {py spos : Pos} (hc : X.calm = true) (hN : X.N.Nodup) (hy : X.N[i]? = some y) (hyl : X.env.scope.names.lookup y = some .local)
    (hsw : swapsWith (.ListComp elt [⟨tg, iter, ifs, 0⟩] scope pos) (some (.Name y py)) spos.line X.env = pure true) (ok : BlkOk X.N X.env.scope scope own) (hjs : ∀ i ∈ js, i ∉ own.map (·.2)) (his : ∀ i ∈ is, i ∈ own.map (·.2)) (hi : SI X T W tg iter js mi)
    (hg : ∀ (s : Shared) (H : Hp) (C : Addr) (cl : List (Str × Addr)) (fp : List Addr), SG (X.blk s H scope (compEnvC scope cl C X.env) fp) T tg is p) (ht : ∀ (s : Shared) (H : Hp) (C : Addr) (cl : List (Str × Addr)) (fp : List Addr), STs (X.blk s H scope (compEnvC scope cl C X.env) fp) T WF ifs c)
    (he : ∀ (s : Shared) (H : Hp) (C : Addr) (cl : List (Str × Addr)) (fp : List Addr), SE (X.blk s H scope (compEnvC scope cl C X.env) fp) T WF elt e) (hs : ∀ x, foldedSetIterable iter X.env x = pure x := by intro _; rfl) :
    SS X T W (.Assign [.Name y py] (.ListComp elt [⟨tg, iter, ifs, 0⟩] scope pos) spos) (mSet i (mLc (own.map (·.2)) mi p c e)) :=
  PS.imp (ps_setLc hc hN hy hyl hsw hi ok hg ht he hs) fun D σ H ⟨φ, s, rel, h⟩ => i_lc hjs his (tE_mono (tE_S rel (fun _ z => z) h) fun v H1 ⟨φ1, s1, rv, _, pr, rel1, rr, hp⟩ => by
      have e : (putS i rv s1).bind (fun f s => .ok f s) = putS i rv s1 := by cases putS i rv s1 <;> rfl
      rw [← e] at hp
      obtain ⟨_, r2, mi, h2⟩ := putS_ok rel1 rr (fun p z => .inr (.inl z)) (fun p z => .inr (.inr z)) hp
      exact h2.nx r2 mi)
theorem putD_len (kvs : List (Key × IV)) (k : Key) (v : IV) : (putD kvs k v).length ≤ kvs.length + 1 := by
  unfold putD
  split <;> simp
theorem putD_ok {K : PySem.W.Frag} {φ : List Addr} {H : Hp} {kvs : List (Key × IV)} {ys : List (Key × V)} (e : kvs.map (·.1) = ys.map (·.1)) (r : RvL K φ H (kvs.map (·.2)) (ys.map (·.2))) {k : Key} {v : IV} {w : V} (rv : Rv K φ H v w) :
    (putD kvs k v).map (·.1) = (putK ys k w).map (·.1) ∧ RvL K φ H ((putD kvs k v).map (·.2)) ((putK ys k w).map (·.2)) := by
  have ha : (kvs.any fun q => decide (q.1 = k)) = ys.any fun q => decide (q.1 = k) := by
    have a1 : ∀ l : List (Key × IV), (l.any fun q => decide (q.1 = k)) = (l.map (·.1)).any fun q => decide (q = k) := fun l => by rw [List.any_map]; rfl
    have a2 : ∀ l : List (Key × V), (l.any fun q => decide (q.1 = k)) = (l.map (·.1)).any fun q => decide (q = k) := fun l => by rw [List.any_map]; rfl
    rw [a1, a2, e]
  unfold putD putK
  rw [ha]
  cases q : ys.any fun q => decide (q.1 = k) with
  | false =>
    simp only [Bool.false_eq_true, if_false, List.map_append, List.map_cons, List.map_nil, e]
    exact ⟨trivial, r.append rv⟩
  | true =>
    simp only [if_true, List.map_map]
    clear ha q
    induction kvs generalizing ys with
    | nil =>
      cases ys with
      | nil => exact ⟨rfl, .nil⟩
      | cons y ys => cases e
    | cons x kvs ih =>
      cases ys with
      | nil => cases e
      | cons y ys =>
        simp only [List.map_cons, List.cons.injEq] at e
        obtain ⟨e1, e2⟩ := e
        have r : RvL K φ H (x.2 :: kvs.map (·.2)) (y.2 :: ys.map (·.2)) := r
        obtain ⟨i1, i2⟩ := ih e2 r.tail
        simp only [List.map_cons, Function.comp]
        by_cases hk : y.1 = k
        · have hx : x.1 = k := e1.trans hk
          simp only [hk, hx, if_true]
          exact ⟨congrArg _ i1, .cons rv i2⟩
        · have hx : ¬ x.1 = k := fun z => hk (e1.symm.trans z)
          simp only [hk, hx, if_false, e1]
          exact ⟨congrArg _ i1, .cons r.head i2⟩
theorem Rel.boxO {K : PySem.W.Frag} {T : Tp} {φ : List Addr} {σ : L2.St} {H : Hp} {s : S} {p : Addr} {o : IO} (r : Rel K T φ σ H s) (ro : Ro K φ H p o) (n : ¬ Mi φ s.env σ p) (nb : p ∉ T.bor) : Rel K T (φ ++ [p]) σ H ⟨s.env, s.hp ++ [o]⟩ := by
  have x0 : Ext (fun _ => False) H (fun _ => False) H := Ext.refl
  refine ⟨List.nodup_append.mpr ⟨r.nd, by simp, fun a ha b hb => ?_⟩, by simp [r.len], fun i a o' h1 h2 => ?_, fun i q e => ?_, r.inj, r.tab, fun b hb => ?_, r.elen⟩
  · have e : b = p := by simpa using hb
    rintro rfl
    exact n (.inl (by rw [← e]; exact ha))
  · by_cases q : i < φ.length
    · rw [List.getElem?_append_left q] at h1
      rw [List.getElem?_append_left (by rw [← r.len]; exact q)] at h2
      exact (r.obj i a o' h1 h2).ext pre_snoc x0 fun _ e => e
    · have l : i = φ.length := by
        have := (List.getElem?_eq_some_iff.mp h1).1
        simp at this
        omega
      rw [l] at h1 h2
      rw [r.len] at h2
      simp at h1 h2
      rw [← h1, ← h2]
      exact ro.ext pre_snoc x0 fun _ e => e
  · have z := r.slot i q e
    cases q with
    | none => trivial
    | some q =>
      cases q with
      | v y => exact z.imp fun v z => ⟨z.1, z.2.ext pre_snoc x0⟩
      | l us =>
        obtain ⟨b, ys, e1, e2, e3, e4⟩ := z
        refine ⟨b, ys, e1, e2, fun m => ?_, e4.ext pre_snoc x0⟩
        rcases List.mem_append.mp m with m | m
        · exact e3 m
        · exact n (.inr ⟨i, us, e, by rw [← (show b = p by simpa using m)]; exact e1⟩)
      | f us =>
        obtain ⟨b, ys, e1, e2, e3, e4⟩ := z
        exact ⟨b, ys, e1, e2, e3, e4.ext pre_snoc x0⟩
      | z us =>
        obtain ⟨b, ys, e1, e2, e4⟩ := z
        exact ⟨b, ys, e1, e2, e4.ext pre_snoc x0⟩
  · obtain ⟨h1, h2⟩ := r.bor b hb
    refine ⟨h1, fun m => ?_⟩
    rcases mi_snoc m with m | m
    · exact h2 m
    · exact nb (by rw [← m]; exact hb)
theorem i_dc {vs : List Nat} {K : PySem.W.Frag} {σ : L2.St} {H : Hp} {Q : VK} (hjs : ∀ i ∈ js, i ∉ vs) (his : ∀ i ∈ is, i ∈ vs) (h : tE K T W (mDc vs mi p c ek ev) σ H Q) :
    tDc (tI K T W js mi) (tG K T is p) (tT K T WF c) (tE K T WF ek) (tE K T WF ev) vs σ H Q := by
  obtain ⟨φ, s, rel, h⟩ := h
  refine ⟨φ, s, rel, (h.bind (R1 := SrcR K T js) (Tm1 := fun _ _ _ => False) fun _ z => z).mono fun J H1 ⟨φ1, s1, src, _, pr, ex, rel1, hJ, hp⟩ D hD => ?_⟩
  cases q : src s1 with
  | none =>
    simp only [q] at hp
    exact (show False from hp).elim
  | some us =>
    simp only [q] at hp
    split at hp
    · rename_i hc
      simp only [Bool.and_eq_true, decide_eq_true_eq] at hc
      obtain ⟨h0, hn5⟩ := hc
      generalize hn : us.length = n at hp hn5
      obtain ⟨relw, miw⟩ := rel1.wipe h0
      obtain ⟨nD, bD⟩ := relw.fresh hD
      refine ⟨fun i m H' => i + m = n ∧ ∃ φ' s' acc xs, φ1 <+: φ' ∧ Ext (Mi φ1 s1.env σ) H1 (Mi φ' s'.env (wipe σ vs)) H' ∧ Rel K T φ' (wipe σ vs) H' s' ∧ own0 vs s' = true ∧ H' D = some (.dK xs) ∧ acc.map (·.1) = xs.map (·.1) ∧ RvL K φ' H' (acc.map (·.2)) (xs.map (·.2)) ∧ acc.length ≤ i ∧ ¬ Mi φ' s'.env (wipe σ vs) D ∧
          Post K T W (Rr K T) Tm (fun a => Mi φ' s'.env (wipe σ vs) a ∨ a = D) φ' σ H' (dcL src n vs p c ek ev m acc s') Q, ⟨n, by omega, φ1, s1, [], [], List.prefix_refl _, ?_, relw.alloc hD, h0, upd_same, rfl, .nil, Nat.le_refl _, nD, ?_⟩, ?_⟩
      · exact (Ext.refl.less miw).over hD
      · refine Post.shift hp (List.prefix_refl _) ((Ext.alloc (A := fun a => Mi φ s.env σ a ∨ (Mi φ1 s1.env σ a ∨ False)) hD).less fun a z => z.imp (fun z => .inr (.inl (miw a z))) id)
      · rintro i m H' ⟨him, φ', s', acc, xs, pr', ex', rel', o', hD', kq, rv', la, nD', hp'⟩
        obtain ⟨relσ, miσ⟩ := rel'.unwipe o'
        have miw' := (relσ.wipe o').2
        have sl : ∀ i ∈ js, (wipe σ vs)[i]? = σ[i]? := fun i hi => wipe_out (hjs i hi)
        cases m with
        | zero =>
          unfold dcL at hp'
          cases q' : src s' with
          | none =>
            simp only [q'] at hp'
            exact (show False from hp').elim
          | some vs' =>
            simp only [q'] at hp'
            split at hp'
            · rename_i hl
              have hl := of_decide_eq_true hl
              have e : vs'.length = i := by omega
              refine .inl ⟨e ▸ (hJ φ' s' (wipe σ vs) H' vs' pr' ex' rel' sl q').2, hp' (φ' ++ [D]) H' (.ref D) pre_snoc (Ext.refl.less fun a z => ?_) (relσ.boxO (.dct hD' kq rv') (fun m => nD' (miσ D m)) bD) (.ref (by rw [← relσ.len]; simp) .nil)⟩
              rcases z with z | z
              · exact (mi_snoc z).imp (miσ a) id
              · exact (show False from z).elim
            · exact (show False from hp').elim
        | succ m =>
          unfold dcL at hp'
          cases q' : src s' with
          | none =>
            simp only [q'] at hp'
            exact (show False from hp').elim
          | some vs' =>
            simp only [q'] at hp'
            split at hp'
            · rename_i x hl hx
              have hl := of_decide_eq_true hl
              have hi : n - (m + 1) = i := by omega
              rw [hi] at hx
              obtain ⟨go, yl⟩ := (hJ φ' s' (wipe σ vs) H' vs' pr' ex' rel' sl q').1 i x hx
              refine .inr ⟨go, fun H3 => (i + 1) + m = n ∧ ∃ φ' s' acc xs, φ1 <+: φ' ∧ Ext (Mi φ1 s1.env σ) H1 (Mi φ' s'.env (wipe σ vs)) H3 ∧ Rel K T φ' (wipe σ vs) H3 s' ∧ own0 vs s' = true ∧ H3 D = some (.dK xs) ∧ acc.map (·.1) = xs.map (·.1) ∧ RvL K φ' H3 (acc.map (·.2)) (xs.map (·.2)) ∧ acc.length ≤ i + 1 ∧ ¬ Mi φ' s'.env (wipe σ vs) D ∧
          Post K T W (Rr K T) Tm (fun a => Mi φ' s'.env (wipe σ vs) a ∨ a = D) φ' σ H3 (dcL src n vs p c ek ev m acc s') Q, fun H3 z => ⟨m, by omega, z⟩, fun v H2 y => ?_⟩
              obtain ⟨x2, rel2, rv2⟩ := yl v H2 y
              split at hp'
              · rename_i s2 hs2
                refine ⟨x, φ', s', s2, rel2, rv2, hs2, fun σ2 l2 k2 rel3 mi2 => ⟨wipe_same his l2 k2, ?_⟩⟩
                have D2 : H2 D = some (.dK xs) := x2.keep D _ hD' nD' (fun _ z => nomatch z)
                have nD2 : ¬ Mi φ' s2.env σ2 D := fun z => nD' (mi2 D z)
                have e12 : Ext (Mi φ1 s1.env σ) H1 (Mi φ' s2.env σ2) H2 := (ex'.trans x2).less mi2
                have r2 := rv'.ext (List.prefix_refl _) x2
                have hw : Post K T W (Rr K T) Tm (fun a => Mi φ' s2.env σ2 a ∨ a = D) φ' σ H2 _ Q := (Post.shift hp' (List.prefix_refl _) (x2.weak (C := fun a => Mi φ' s'.env (wipe σ vs) a ∨ a = D) (D := fun a => Mi φ' s'.env (wipe σ vs) a ∨ a = D) (fun a z => .inl z) fun a z => .inr z)).weak fun a z => z.imp (mi2 a) id
                clear hp' yl go
                refine ⟨φ', s2, rel3, ?_⟩
                cases qc : c s2 with
                | bad =>
                  simp only [qc] at hw
                  exact (show False from hw).elim
                | exn c0 fs s3 =>
                  simp only [qc] at hw
                  exact (show False from hw).elim
                | ok k s3 =>
                  simp only [qc] at hw
                  intro φ3 H3 b pr3 ex3 rel4 hb
                  have hb : k = b := hb
                  subst hb
                  have D3 : H3 D = some (.dK xs) := ex3.keep D _ D2 nD2 (fun _ z => nomatch z)
                  have nD3 : ¬ Mi φ3 s3.env σ2 D := fun z => by
                    rcases ex3.new D (.inl z) with z | z
                    · exact nD2 z
                    · exact (z.dK D2).elim
                  have ex3' : Ext (Mi φ' s2.env σ2) H2 (Mi φ3 s3.env σ2) H3 := ex3.less fun a z => .inl z
                  have e13 := e12.trans ex3'
                  have r3 := r2.ext pr3 ex3
                  have hw3 : Post K T W (Rr K T) Tm (fun a => Mi φ3 s3.env σ2 a ∨ a = D) φ3 σ H3 _ Q := Post.shift hw pr3 (ex3'.weak (C := fun a => Mi φ' s2.env σ2 a ∨ a = D) (D := fun a => Mi φ3 s3.env σ2 a ∨ a = D) (fun a z => .inl z) fun a z => z.imp id fun z => .inr z)
                  clear hw
                  cases k with
                  | false =>
                    simp only [Bool.false_eq_true, if_false]
                    obtain ⟨r5, m5⟩ := rel4.turn his l2 k2
                    exact ⟨by omega, φ3, clrS vs s3, acc, xs, pr'.trans pr3, e13.less m5, r5, own0_clr, D3, kq, r3, by omega, fun z => nD3 (m5 D z), hw3.weak fun a z => z.imp (m5 a) id⟩
                  | true =>
                    simp only [if_true]
                    refine ⟨φ3, s3, rel4, ?_⟩
                    dsimp only at hw3
                    cases qe : ek s3 with
                    | bad =>
                      simp only [qe] at hw3
                      exact (show False from hw3).elim
                    | exn c0 fs s4 =>
                      simp only [qe] at hw3
                      exact (show False from hw3).elim
                    | ok r s4 =>
                      simp only [qe] at hw3
                      intro φ4 H4 kv pr4 ex4 rel5 rr
                      split at hw3
                      · rename_i k0 y0 s5 hk0 hv0
                        have ekv := key_ok rr hk0
                        have D4 : H4 D = some (.dK xs) := ex4.keep D _ D3 nD3 (fun _ z => nomatch z)
                        have nD4 : ¬ Mi φ4 s4.env σ2 D := fun z => by
                          rcases ex4.new D (.inl z) with z | z
                          · exact nD3 z
                          · exact (z.dK D3).elim
                        refine ⟨φ4, s4, rel5, ?_⟩
                        rw [hv0]
                        intro φ5 H5 yv pr5 ex5 rel6 rv6
                        have rv6 : Rv K φ5 H5 y0 yv := rv6
                        have D5 : H5 D = some (.dK xs) := ex5.keep D _ D4 nD4 (fun _ z => nomatch z)
                        have nD5 : ¬ Mi φ5 s5.env σ2 D := fun z => by
                          rcases ex5.new D (.inl z) with z | z
                          · exact nD4 z
                          · exact (z.dK D4).elim
                        have ex4' : Ext (Mi φ3 s3.env σ2) H3 (Mi φ5 s5.env σ2) H5 := (ex4.less fun a z => .inl z).trans (ex5.less fun a z => .inl z)
                        have r5 := r3.ext (pr4.trans pr5) ex4'
                        obtain ⟨r7, m7⟩ := rel6.turn his l2 k2
                        have nD7 := fun z => nD5 (m7 D z)
                        obtain ⟨r8, f8⟩ := r7.out (u := .dK (putK xs k0 yv)) (fun _ z => nomatch z) D5 nD7 bD rfl (fun _ z => nomatch z) (fun _ z => nomatch z)
                        obtain ⟨kq', rq'⟩ := putD_ok kq r5 (k := k0) rv6
                        have lx : acc.length = xs.length := by simpa using congrArg List.length kq
                        refine ⟨xs, k0, ekv, D5, ?_, by omega, φ5, clrS vs s5, putD acc k0 y0, putK xs k0 yv, pr'.trans (pr3.trans (pr4.trans pr5)), ((e13.trans ex4').less m7).over hD, r8, own0_clr, upd_same, kq', f8 _ _ rq', ?_, nD7, ?_⟩
                        · exact Nat.lt_of_lt_of_le (show xs.length < 100000 by omega) (by decide)
                        · have := putD_len acc k0 y0
                          omega
                        · refine Post.shift hw3 (pr4.trans pr5) ((ex4'.weak (C := fun a => Mi φ3 s3.env σ2 a ∨ a = D) (D := fun a => Mi φ5 s5.env σ2 a ∨ a = D) (fun a z => .inl z) fun a z => z.imp id fun z => .inr z).trans ((Ext.write (A := fun a => Mi φ5 s5.env σ2 a ∨ a = D) (.inr rfl) D5 rfl).less fun a z => z.imp (m7 a) id))
                      · exact (show False from hw3).elim
              · exact (show False from hp').elim
            · exact (show False from hp').elim
    · exact (show False from hp).elim
theorem se_dc {kx vx : Expr} (hc : X.calm = true) (hN : X.N.Nodup) (ok : BlkOk X.N X.env.scope scope own) (hjs : ∀ i ∈ js, i ∉ own.map (·.2)) (his : ∀ i ∈ is, i ∈ own.map (·.2)) (hi : SI X T W tg iter js mi)
    (hg : ∀ (s : Shared) (H : Hp) (C : Addr) (cl : List (Str × Addr)) (fp : List Addr), SG (X.blk s H scope (compEnvC scope cl C X.env) fp) T tg is p) (ht : ∀ (s : Shared) (H : Hp) (C : Addr) (cl : List (Str × Addr)) (fp : List Addr), STs (X.blk s H scope (compEnvC scope cl C X.env) fp) T WF ifs c)
    (hk : ∀ (s : Shared) (H : Hp) (C : Addr) (cl : List (Str × Addr)) (fp : List Addr), SE (X.blk s H scope (compEnvC scope cl C X.env) fp) T WF kx ek)
    (he : ∀ (s : Shared) (H : Hp) (C : Addr) (cl : List (Str × Addr)) (fp : List Addr), SE (X.blk s H scope (compEnvC scope cl C X.env) fp) T WF vx ev) (hs : ∀ x, foldedSetIterable iter X.env x = pure x := by intro _; rfl) :
    SE X T W (.DictComp kx vx [⟨tg, iter, ifs, 0⟩] scope pos) (mDc (own.map (·.2)) mi p c ek ev) :=
  PE.imp (pe_dc hc hN hi ok hg ht hk he hs) fun σ H Q h => i_dc hjs his h
end
end Py

set_option Elab.async false
set_option linter.all false
set_option maxRecDepth 100000
set_option maxHeartbeats 4000000
/-! P12: what a loop walks: lists, tuples, ranges. -/
namespace Py
open PySem PySem.Spec PyProof.Rows L2
def isTup : RV → Bool
  | .v (.tup _) => true
  | _ => false
def srcOf (b : Bool) (pn : Pn) : Src := fun s => match rd s.env pn with
  | some r => (match isTup r == b with
    | true => seqOf s r
    | false => none)
  | none => none
def kindOf (pn : Pn) (s : S) : Bool := match rd s.env pn with
  | some r => isTup r
  | none => false
def itS (o : Opd) : M Src := fun s => (o.run s).bind fun pn s1 => match srcOf (kindOf pn s1) pn s1 with
  | some _ => .ok (srcOf (kindOf pn s1) pn) s1
  | none => .bad
def rngI (lo : Int) (n : Nat) : List IV := (List.range n).map fun k => .int (lo + (k : Nat))
def gRI1 : List RV → S → Rs Src := fun rs s => match rs with
  | [.v (.int j)] => (match decide (-1000000 ≤ j) && decide (j ≤ 1000000) with
    | true => .ok (fun _ => some (rngI 0 j.toNat)) s
    | false => .bad)
  | _ => .bad
def gRI2 : List RV → S → Rs Src := fun rs s => match rs with
  | [.v (.int i), .v (.int j)] => (match decide (-1000000 ≤ i) && decide (i ≤ 1000000) && decide (-1000000 ≤ j) && decide (j ≤ 1000000) with
    | true => .ok (fun _ => some (rngI i (j - i).toNat)) s
    | false => .bad)
  | _ => .bad
def SqB (K : PySem.W.Frag) (H : Hp) : Bool → Addr → List V → Prop
  | true => SqT K H
  | false => SqL K H
section
variable {K : PySem.W.Frag} {T : Tp} {W : WX} {φ φ1 : List Addr} {σ : L2.St} {H H1 : Hp} {s s1 : S}
theorem seq_kind {r : RV} {x : V} {vs : List IV} {b : Bool} (rel : Rel K T φ σ H s) (h : Rr K T φ s.env σ H r x) (hb : isTup r = b) (e : seqOf s r = some vs) : ∃ a xs, x = .ref a ∧ RvL K φ H vs xs ∧ SqB K H b a xs := by
  obtain ⟨p, xs, h1, h2, h3⟩ := seq_ok rel h e
  refine ⟨p, xs, h1, h2, ?_⟩
  subst hb
  rcases h3 with ⟨⟨us, rfl⟩, h3⟩ | ⟨hn, h3⟩
  · exact h3
  · have hf : isTup r = false := by
      cases r with
      | v y =>
        cases y with
        | tup us => exact absurd rfl (hn us)
        | _ => rfl
      | _ => rfl
    rw [hf]
    exact h3.1
theorem pnd_later {pn : Pn} {x : V} {is : List Nat} {φ' : List Addr} {s' : S} {σ' : L2.St} {H' : Hp} {env : List (Option RV)} {r : RV} (h : Pnd K T φ env σ H pn x) (his : ∀ i, pn = .inl i → i ∈ is) (pr : φ <+: φ') (e : Ext (Mi φ env σ) H (Mi φ' s'.env σ') H') (rel : Rel K T φ' σ' H' s') (hs : ∀ i ∈ is, σ'[i]? = σ[i]?) (hr : rd s'.env pn = some r) : Rr K T φ' s'.env σ' H' r x := by
  cases pn with
  | inl i =>
    obtain ⟨y, h1, h2, _⟩ := rdS_ok rel (show rdS s'.env i = some r from hr)
    rw [hs i (his i rfl), show σ[i]? = some (some x) from h] at h1
    cases h1
    exact h2
  | inr q =>
    have hr : some q = some r := hr
    cases hr
    exact Rr.ext (A := fun _ => False) h.2 h.1 pr (e.less fun a z => z.elim id fun z => z.elim)
/-- what an operand's sequence stands for at any later state -/
theorem src_later {pn : Pn} {x : V} {is : List Nat} {b : Bool} {φ' : List Addr} {s' : S} {σ' : L2.St} {H' : Hp} {env : List (Option RV)} {vs : List IV} (h : Pnd K T φ env σ H pn x) (his : ∀ i, pn = .inl i → i ∈ is) (pr : φ <+: φ') (e : Ext (Mi φ env σ) H (Mi φ' s'.env σ') H') (rel : Rel K T φ' σ' H' s') (hs : ∀ i ∈ is, σ'[i]? = σ[i]?) (hv : srcOf b pn s' = some vs) :
    ∃ a xs, x = .ref a ∧ RvL K φ' H' vs xs ∧ SqB K H' b a xs := by
  unfold srcOf at hv
  cases q : rd s'.env pn with
  | none =>
    simp only [q] at hv
    cases hv
  | some r =>
    simp only [q] at hv
    split at hv
    · rename_i hb
      exact seq_kind rel (pnd_later h his pr e rel hs q) (by simpa using hb) hv
    · cases hv
end
section
variable {X : Cx} {T : Tp} {W : WX} {tg e a b : Expr} {o oa ob : Opd} {p pos : Pos}
/-- either kind -/
def iSq (K : PySem.W.Frag) (tl : TE) : TI := fun σ H R => tl σ H fun x H1 => ∃ a xs, x = .ref a ∧ ((SqL K H1 a xs ∧ R (Itl K a) H1) ∨ (SqT K H1 a xs ∧ R (Itt K a) H1))
theorem walk_new {pins : List (Addr × Obj)} {σ : L2.St} {H1 : Hp} {s1 : Shared} {R : It → Hp → Prop} {ob : Obj} {J : It} {tn : Nat → Heap → Prop} (I1 : Inv X pins σ H1 s1) (hT : Turn X.prog X.w X.K tg J [s1.heap.objs.size] s1.heap.objs.size tn) (h0 : tn 0 (s1.heap.push ob)) (q : R J H1) : PIE X pins σ tg R (.ref s1.heap.objs.size) { s1 with heap := s1.heap.push ob } :=
  ⟨_, _, tn, J, H1, rfl, I1.kept (t' := s1.toks) (fun _ _ w => Heap.get?_push_of_some _ w), hT, h0, fun b hb => by
    rw [List.mem_singleton.mp hb]
    exact I1.fpOk (Nat.le_refl _) (I1.hok.fresh (Nat.le_refl _)), q⟩
theorem pi_sq {l : Expr} {tl : TE} (hl : PE X l tl) : PI X tg l (iSq X.K tl) := ⟨fun pins s σ H R I h => thn (hl.run pins s σ H _ I h) fun v s1 ⟨x, H1, I1, r1, a, xs, e, q1⟩ => by
  subst e
  cases r1
  rcases q1 with ⟨hq, q⟩ | ⟨hq, q⟩
  · obtain ⟨its, _, pl, _⟩ := I1.list hq
    exact wpAny_pyIter_list pl.isList (walk_new I1 (turn_list a _) ⟨_, Heap.get?_push_size _ rfl, rfl, rfl⟩ q)
  · obtain ⟨its, _, pl, _⟩ := I1.tuple hq
    exact wpAny_pyIter_tuple (items := its.toArray) pl (walk_new I1 (turn_tuple a _) ⟨_, Heap.get?_push_size _ rfl, rfl, rfl⟩ q)⟩
theorem si_seq (h : SO X T W e o) : SI X T W tg e (opSl o) (itS o) := PI.imp (pi_sq h) fun σ H R ⟨φ, s, rel, hp⟩ => by
  refine opd_step' rel hp (fun _ z => z) _ fun x H1 φ1 s1 pa ps pr ex rel1 pn1 hp => ?_
  cases q : srcOf (kindOf pa s1) pa s1 with
  | none =>
    simp only [q] at hp
    exact (show False from hp).elim
  | some vs =>
    simp only [q] at hp
    have x0 : Ext (Mi φ1 s1.env σ) H1 (Mi φ1 s1.env σ) H1 := Ext.refl
    have sl : ∀ i, pa = .inl i → i ∈ opSl o := fun i e => ps i e
    obtain ⟨a, xs, rfl, rv, sq⟩ := src_later pn1 sl (List.prefix_refl _) x0 rel1 (fun _ _ => rfl) q
    refine ⟨a, xs, rfl, ?_⟩
    generalize hk : kindOf pa s1 = k at hp q sq
    cases k with
    | false =>
      refine .inl ⟨sq, hp φ1 H1 (Itl X.K a) (List.prefix_refl _) (Ext.refl.less fun p z => z.elim (fun z => .inr (.inl z)) fun z => z.elim) rel1 fun φ' s' σ' H' ws pr' e' rel' hs hv => ?_⟩
      obtain ⟨a', ys, ea, rv', sq'⟩ := src_later pn1 sl pr' e' rel' hs hv
      cases ea
      exact ⟨fun k y hy => ⟨(rv'.get hy).elim fun v z => ⟨ys, v, sq', z.1⟩, fun v H2 ⟨e2, z⟩ => by
        subst e2
        obtain ⟨v', h1, h2⟩ := rv'.get hy
        rw [z ys sq'] at h1
        cases h1
        exact ⟨Ext.refl, rel', h2⟩⟩, ys, sq', by rw [rv'.length]; exact Nat.le_refl _⟩
    | true =>
      refine .inr ⟨sq, hp φ1 H1 (Itt X.K a) (List.prefix_refl _) (Ext.refl.less fun p z => z.elim (fun z => .inr (.inl z)) fun z => z.elim) rel1 fun φ' s' σ' H' ws pr' e' rel' hs hv => ?_⟩
      obtain ⟨a', ys, ea, rv', sq'⟩ := src_later pn1 sl pr' e' rel' hs hv
      cases ea
      exact ⟨fun k y hy => ⟨(rv'.get hy).elim fun v z => ⟨ys, v, sq', z.1⟩, fun v H2 ⟨e2, z⟩ => by
        subst e2
        obtain ⟨v', h1, h2⟩ := rv'.get hy
        rw [z ys sq'] at h1
        cases h1
        exact ⟨Ext.refl, rel', h2⟩⟩, ys, sq', by rw [rv'.length]; exact Nat.le_refl _⟩
/-! ### ranges -/
theorem rng_get {lo : Int} {n k : Nat} {x : IV} (h : (rngI lo n)[k]? = some x) : k < n ∧ x = .int (lo + (k : Nat)) := by
  unfold rngI at h
  rw [List.getElem?_map] at h
  by_cases q : k < n
  · rw [List.getElem?_range q] at h
    cases h
    exact ⟨q, rfl⟩
  · rw [List.getElem?_eq_none (by simpa using q)] at h
    cases h
theorem src_rng {lo : Int} {n : Nat} {φ : List Addr} {env : List (Option RV)} {σ : L2.St} {H : Hp} : SrcR X.K T [] φ env σ H (fun _ => some (rngI lo n)) (Itr lo n) := fun φ' s' σ' H' vs pr e rel hs hv => by
  cases hv
  refine ⟨fun k x hx => ?_, by unfold rngI; simp [Itr]⟩
  obtain ⟨h1, rfl⟩ := rng_get hx
  refine ⟨h1, fun v H2 ⟨e1, e2⟩ => ?_⟩
  subst e1 e2
  exact ⟨Ext.refl, rel, Rv.int⟩
theorem si_rng1 (hg : Gl X "range") (hm : X.mg "range" = none) (ha : SA X T W [a] [oa]) (hs : starEach [a] X.env = [(false, eval a X.env)] := by rfl) : SI X T W tg (.Call (.Name "range" p) [a] [] pos) [] (mN [oa] gRI1) :=
  PI.imp (pi_range1 hg hm ha hs) fun σ H R ⟨φ, s, rel, hp⟩ => mN_step _ rel hp fun xs H1 φ1 s1 rs A l1 l2 rel1 al hA hT hp => by
    match rs, xs, l1, l2, al, hp with
    | [r1], [x], _, _, al, hp =>
      unfold gRI1 at hp
      split at hp
      · rename_i j e0
        simp only [List.cons.injEq, and_true] at e0
        subst e0
        split at hp
        · rename_i hb
          simp only [Bool.and_eq_true, decide_eq_true_eq] at hb
          refine ⟨j, by rw [Rv.int_inv al.1], by omega, by omega, hp φ1 H1 _ (List.prefix_refl _) (Ext.refl.less fun p z => z.elim (hA p) fun z => z.elim) rel1 src_rng⟩
        · exact (show False from hp).elim
      · exact (show False from hp).elim
theorem si_rng2 (hg : Gl X "range") (hm : X.mg "range" = none) (ha : SA X T W [a, b] [oa, ob]) (hs : starEach [a, b] X.env = [(false, eval a X.env), (false, eval b X.env)] := by rfl) (hs2 : starEach [b] X.env = [(false, eval b X.env)] := by rfl) : SI X T W tg (.Call (.Name "range" p) [a, b] [] pos) [] (mN [oa, ob] gRI2) :=
  PI.imp (pi_range2 hg hm ha hs hs2) fun σ H R ⟨φ, s, rel, hp⟩ => mN_step _ rel hp fun xs H1 φ1 s1 rs A l1 l2 rel1 al hA hT hp => by
    match rs, xs, l1, l2, al, hp with
    | [r1, r2], [x, y], _, _, al, hp =>
      unfold gRI2 at hp
      split at hp
      · rename_i i j e0
        simp only [List.cons.injEq, and_true] at e0
        obtain ⟨e1, e2⟩ := e0
        subst e1 e2
        split at hp
        · rename_i hb
          simp only [Bool.and_eq_true, decide_eq_true_eq] at hb
          refine ⟨i, j, by rw [Rv.int_inv al.1, Rv.int_inv al.2.1.1], by omega, hp φ1 H1 _ (List.prefix_refl _) (Ext.refl.less fun p z => z.elim (hA p) fun z => z.elim) rel1 src_rng⟩
        · exact (show False from hp).elim
      · exact (show False from hp).elim
end
end Py

set_option Elab.async false
set_option linter.all false
set_option maxRecDepth 100000
set_option maxHeartbeats 4000000
/-! P13: zip of two and three, enumerate, of lists and tuples in any mix. -/
namespace Py
open PySem PySem.Spec PyProof.Rows L2
inductive F2 {α β : Type} (R : α → β → Prop) : List α → List β → Prop where
  | nil : F2 R [] []
  | cons {a b as bs} (h : R a b) (t : F2 R as bs) : F2 R (a :: as) (b :: bs)
abbrev Col := Bool × Addr
def Cont (h : Heap) (c : Col) (its : List Value) : Prop := match c.1 with
  | true => h.IsTuple c.2 its.toArray
  | false => h.IsList c.2 its.toArray
def ItB (h : Heap) (c : Col) (it : Addr) (i : Nat) : Prop := match c.1 with
  | true => h.IsTupleIter it c.2 i
  | false => h.IsListIter it c.2 i
/-- the columns' items side by side, behind pre -/
def ItZ (K : PySem.W.Frag) (cs : List Col) (pre : Nat → List V) : It :=
  ⟨fun i H => ∀ c ∈ cs, ∃ xs, SqB K H c.1 c.2 xs ∧ i < xs.length,
    fun i H v H' => ∃ T r, v = .ref T ∧ H T = none ∧ H' = upd H T (.tup (pre i ++ r)) ∧ F2 (fun c x => ∀ xs, SqB K H c.1 c.2 xs → xs[i]? = some x) cs r,
    fun i H => (∀ c ∈ cs, ∃ xs, SqB K H c.1 c.2 xs ∧ i ≤ xs.length) ∧ ∃ c ∈ cs, ∃ xs, SqB K H c.1 c.2 xs ∧ xs.length ≤ i⟩
section
variable {X : Cx} {pins : List (Addr × Obj)} {σ : L2.St} {H : Hp} {s : Shared}
theorem sqb_cont (I : Inv X pins σ H s) {b : Bool} {a : Addr} {xs : List V} (h : SqB X.K H b a xs) : ∃ its : List Value, Vals xs its ∧ Cont s.heap (b, a) its := by
  cases b with
  | true =>
    obtain ⟨its, rv, p, _⟩ := I.tuple h
    exact ⟨its, rv, p⟩
  | false =>
    obtain ⟨its, rv, p, _⟩ := I.list h
    exact ⟨its, rv, p.isList⟩
theorem sqb_inj (I : Inv X pins σ H s) {b : Bool} {a : Addr} {xs ys : List V} (h : SqB X.K H b a xs) (h' : SqB X.K H b a ys) : xs = ys := by
  cases b with
  | true => exact I.tuple_inj h h'
  | false => exact I.list_inj h h'
theorem cols_of (I : Inv X pins σ H s) {i : Nat} {P : Nat → Prop} : ∀ {cs : List Col}, (∀ c ∈ cs, ∃ xs, SqB X.K H c.1 c.2 xs ∧ P xs.length) → ∃ (xss : List (List V)) (vss : List (List Value)), F2 (fun c xs => SqB X.K H c.1 c.2 xs) cs xss ∧ F2 (fun c vs => Cont s.heap c vs) cs vss ∧ F2 (fun xs vs => Vals xs vs) xss vss ∧ ∀ vs ∈ vss, P vs.length
  | [], _ => ⟨[], [], .nil, .nil, .nil, fun _ z => by cases z⟩
  | c :: cs, h => by
    obtain ⟨xs, h1, h2⟩ := h c List.mem_cons_self
    obtain ⟨its, h3, h4⟩ := sqb_cont I h1
    obtain ⟨xss, vss, g1, g2, g3, g4⟩ := cols_of I (P := P) (i := i) (cs := cs) fun d hd => h d (List.mem_cons_of_mem _ hd)
    refine ⟨xs :: xss, its :: vss, .cons h1 g1, .cons h4 g2, .cons h3 g3, fun vs hv => ?_⟩
    rcases List.mem_cons.mp hv with e | hv
    · rw [e, ← h3.length]; exact h2
    · exact g4 vs hv
theorem vals_back {xs : List V} {us : List Value} (h : Vals xs us) {i : Nat} {u : Value} (e : us[i]? = some u) : ∃ x, xs[i]? = some x ∧ RelV x u := by
  have l : i < xs.length := by rw [h.length]; exact (List.getElem?_eq_some_iff.mp e).1
  obtain ⟨u', e', r⟩ := h.get (List.getElem?_eq_getElem l)
  rw [e] at e'
  cases e'
  exact ⟨_, List.getElem?_eq_getElem l, r⟩
theorem row_of (I : Inv X pins σ H s) {i : Nat} : ∀ {cs : List Col} {xss : List (List V)} {vss : List (List Value)} {r : List Value}, F2 (fun c xs => SqB X.K H c.1 c.2 xs) cs xss → F2 (fun xs vs => Vals xs vs) xss vss → F2 (fun (vs : List Value) (x : Value) => vs[i]? = some x) vss r →
    ∃ q : List V, Vals q r ∧ F2 (fun (c : Col) (x : V) => ∀ xs, SqB X.K H c.1 c.2 xs → xs[i]? = some x) cs q
  | [], _, _, _, .nil, .nil, .nil => ⟨[], .nil, .nil⟩
  | _, _, _, _, .cons h t, .cons h2 t2, .cons h3 t3 => by
    obtain ⟨q, g1, g2⟩ := row_of I t t2 t3
    obtain ⟨x, e, rx⟩ := vals_back h2 h3
    exact ⟨x :: q, .cons rx g1, .cons (fun ys hy => by rw [sqb_inj I hy h]; exact e) g2⟩
end
theorem F2.len {α β : Type} {R : α → β → Prop} {as : List α} {bs : List β} (h : F2 R as bs) : as.length = bs.length := by
  induction h with
  | nil => rfl
  | cons _ _ ih => simp [ih]
/-- what a walk by columns must have -/
structure ColWalk (P : Program) (w : World) (tg : Expr) (cs : List Col) (pre : Nat → List V) (fp : List Addr) (it : Addr) (tn : Nat → Heap → Prop) : Prop where
  mem : it ∈ fp
  obj : ∀ i h, tn i h → ∀ b ∈ fp, ∃ o, h.get? b = some o ∧ ∀ v, o.data ≠ .cell v
  keep : ∀ i h h', tn i h → (∀ b ∈ fp, ∀ o, h.get? b = some o → h'.get? b = some o) → tn i h'
  small : ∀ i, (pre i).length + cs.length ≤ 10
  self : ∀ (A : Around) (i : Nat) (s : Shared) (Q : Value → Shared → Prop) (E : Value → Shared → Prop), tn i s.heap → Q (.ref it) s → wpAny (model P w) A (pyIter (.ref it)) Q E s
  goes : ∀ (A : Around) (h : Heap) (i : Nat) (vss : List (List Value)), A.handled = none → tn i h → F2 (fun c vs => Cont h c vs) cs vss → (∀ vs ∈ vss, i ≤ vs.length) →
    ∃ fp' wr n Y St, GoesN P w A tg it fp' wr n Y St ∧ St i h ∧ (∀ b ∈ wr, b ∈ fp) ∧ ((∀ vs ∈ vss, i < vs.length) → i < n) ∧ ((∃ vs ∈ vss, vs.length ≤ i) → i = n) ∧ (∀ j h', St j h' → tn j h') ∧
      ∀ h₀ v h', Y i h₀ v h' → ∃ T pv r, v = .ref T ∧ h₀.objs.size ≤ T ∧ h'.IsTuple T (pv ++ r).toArray ∧ Vals (pre i) pv ∧ F2 (fun (vs : List Value) (x : Value) => vs[i]? = some x) vss r
theorem F2.mem1 {α β : Type} {R : α → β → Prop} {as : List α} {bs : List β} (h : F2 R as bs) : ∀ a ∈ as, ∃ b ∈ bs, R a b := by
  induction h with
  | nil => exact fun _ z => by cases z
  | cons h t ih =>
    intro a ha
    rcases List.mem_cons.mp ha with e | ha
    · rw [e]; exact ⟨_, List.mem_cons_self, h⟩
    · obtain ⟨b, hb, r⟩ := ih a ha
      exact ⟨b, List.mem_cons_of_mem _ hb, r⟩
theorem F2.mem2 {α β : Type} {R : α → β → Prop} {as : List α} {bs : List β} (h : F2 R as bs) : ∀ b ∈ bs, ∃ a ∈ as, R a b := by
  induction h with
  | nil => exact fun _ z => by cases z
  | cons h t ih =>
    intro a ha
    rcases List.mem_cons.mp ha with e | ha
    · rw [e]; exact ⟨_, List.mem_cons_self, h⟩
    · obtain ⟨b, hb, r⟩ := ih a ha
      exact ⟨b, List.mem_cons_of_mem _ hb, r⟩
theorem turn_cols {P : Program} {w : World} {K : PySem.W.Frag} {tg : Expr} {cs : List Col} {pre : Nat → List V} {fp : List Addr} {it : Addr} {tn : Nat → Heap → Prop} (C : ColWalk P w tg cs pre fp it tn) : Turn P w K tg (ItZ K cs pre) fp it tn where
  mem := C.mem
  obj := C.obj
  keep := C.keep
  self := C.self
  item := fun X hP hw hK hc i pins s σ H E I hf st hg => by
    subst hP hw hK
    obtain ⟨xss, vss, c1, c2, c3, c4⟩ := cols_of I (i := i) (P := fun l => i < l) hg
    obtain ⟨fp', wr, n, Y, St, W, st0, sub, g1, _, back, row⟩ := C.goes X.A s.heap i vss (I.ok.hd hc) st c2 fun vs hv => Nat.le_of_lt (c4 vs hv)
    refine W.goes i s _ E (g1 c4) st0 fun v h' tk hY st' kk tkk => ?_
    obtain ⟨T, pv, r, rfl, hT, tup, vp, rr⟩ := row _ _ _ hY
    obtain ⟨q, vq, fq⟩ := row_of I c1 c3 rr
    have lq : (pre i ++ q).length ≤ sizeLine := by
      have h1 := C.small i
      have h2 := fq.len
      rw [List.length_append]
      exact Nat.le_trans (show _ ≤ 10 by omega) (by decide)
    have new : ObjOk X.prog X.w (upd H T (.tup (pre i ++ q))) h' T (.tup (pre i ++ q)) := ⟨lq, pv ++ r, vp.append vq, tup⟩
    exact ⟨.ref T, _, I.turnedNew (ch := wr) kk (fun b hb => hf b (sub b hb)) hT new, rfl, ⟨T, q, rfl, I.hok.fresh hT, rfl, fq⟩, back _ _ st', fun b hb => by
      obtain ⟨o, eo, _⟩ := C.obj i _ st b hb
      have hlt := Heap.lt_size eo
      rw [upd_ne (Nat.ne_of_lt (Nat.lt_of_lt_of_le hlt hT))]
      exact (hf b hb).1⟩
  done := fun X hP hw hK hc i pins s σ H E I hf st hg => by
    subst hP hw hK
    obtain ⟨h1, c, hcm, xs, hsq, hl⟩ := hg
    obtain ⟨xss, vss, c1, c2, c3, c4⟩ := cols_of I (i := i) (P := fun l => i ≤ l) h1
    obtain ⟨fp', wr, n, Y, St, W, st0, sub, _, g2, back, row⟩ := C.goes X.A s.heap i vss (I.ok.hd hc) st c2 c4
    have e : i = n := g2 (by
      obtain ⟨ys, hy, hs⟩ := c1.mem1 c hcm
      obtain ⟨vs, hv, rv⟩ := c3.mem1 ys hy
      exact ⟨vs, hv, by rw [← rv.length, sqb_inj I hs hsq]; exact hl⟩)
    subst e
    refine wpAny_mono (W.stops s (fun s1 => Inv X pins σ H s1) E st0 fun h' tk kk tkk => ?_) (fun r s1 h => h) fun _ _ z => z
    exact I.turnedL (ch := wr) kk fun b hb => hf b (sub b hb)

/-! ### the instances -/
def oIt : Bool → Addr → Obj
  | true, a => { cls := .type "tuple_iterator", data := .fields #[.ref a, .int 0 0] }
  | false, a => { cls := .type "list_iterator", data := .fields #[.ref a, .int 0 0] }
theorem beg_col (b : Bool) (a : Addr) (its : List Value) : Begins (.ref a) (oIt b a) fun h => Cont h (b, a) its := by
  cases b with
  | true => exact begins_tuple a its.toArray
  | false => exact begins_list a its.toArray
theorem itb_new {h : Heap} {b : Bool} {a it : Addr} (e : h.get? it = some (oIt b a)) : ItB h (b, a) it 0 := by
  cases b with
  | true => exact ⟨_, e, rfl, rfl⟩
  | false => exact ⟨_, e, rfl, rfl⟩
theorem itb_obj {h : Heap} {b : Bool} {a it : Addr} {i : Nat} (e : ItB h (b, a) it i) : ∃ o, h.get? it = some o ∧ ∀ v, o.data ≠ .cell v := by
  cases b with
  | true =>
    obtain ⟨o, e, _, d⟩ := e
    exact ⟨o, e, fun v z => by rw [d] at z; cases z⟩
  | false =>
    obtain ⟨o, e, _, d⟩ := e
    exact ⟨o, e, fun v z => by rw [d] at z; cases z⟩
theorem itb_keep {h h' : Heap} {b : Bool} {a it : Addr} {i : Nat} (e : ItB h (b, a) it i) (k : ∀ o, h.get? it = some o → h'.get? it = some o) : ItB h' (b, a) it i := by
  cases b with
  | true => exact Heap.IsTupleIter.at (show h.IsTupleIter it a i from e) k
  | false => exact Heap.IsListIter.at (show h.IsListIter it a i from e) k
theorem draw_col {P : Program} {w : World} {A : Around} (hh : A.handled = none) (it : Addr) (b : Bool) (a : Addr) (hne : a ≠ it) (its : List Value) :
    Draws P w A it [it, a] its.length (fun i v => its[i]? = some v) (fun i h => ItB h (b, a) it i ∧ Cont h (b, a) its) := by
  cases b with
  | true =>
    have q := Draws.tuple (prog := P) (w := w) hh it a hne its.toArray
    simp only [List.size_toArray, List.getElem?_toArray] at q
    exact q
  | false =>
    have q := Draws.list (prog := P) (w := w) hh it a hne its.toArray
    simp only [List.size_toArray, List.getElem?_toArray] at q
    exact q
def Zn2 (z TI TO i1 i2 : Addr) (c1 c2 : Col) (i : Nat) (h : Heap) : Prop := IsZip h z TI TO .none ∧ IsTupOf2 h TI (.ref i1) (.ref i2) ∧ (∃ a1 a2, IsTupOf2 h TO a1 a2) ∧ ItB h c1 i1 i ∧ ItB h c2 i2 i
theorem walk_zip2 {P : Program} {w : World} {elts : List Expr} {kk : Nat} {tpos : Pos} {z TI TO i1 i2 a1 a2 : Addr} {b1 b2 : Bool} (S : ZipSep2 z TI TO i1 i2 [i1, a1] [i2, a2]) (n1 : a1 ≠ i1) (n2 : a2 ≠ i2) :
    ColWalk P w (.Tuple elts kk tpos) [(b1, a1), (b2, a2)] (fun _ => []) [z, TI, TO, i1, i2] z (Zn2 z TI TO i1 i2 (b1, a1) (b2, a2)) where
  mem := List.mem_cons_self
  small := fun _ => by simp
  self := fun A i s Q E st h => wpAny_pyIter_zip st.1 h
  obj := fun i h ⟨hz, hTI, ⟨x, y, hTO⟩, h1, h2⟩ b hb => by
    simp only [List.mem_cons, List.not_mem_nil, or_false] at hb
    rcases hb with rfl | rfl | rfl | rfl | rfl
    · exact ⟨_, hz, fun v q => nomatch q⟩
    · exact ⟨_, hTI, fun v q => nomatch q⟩
    · exact ⟨_, hTO, fun v q => nomatch q⟩
    · exact itb_obj h1
    · exact itb_obj h2
  keep := fun i h h' ⟨hz, hTI, ⟨x, y, hTO⟩, h1, h2⟩ k => ⟨k z (by simp) _ hz, k TI (by simp) _ hTI, ⟨x, y, k TO (by simp) _ hTO⟩, itb_keep h1 (k i1 (by simp)), itb_keep h2 (k i2 (by simp))⟩
  goes := fun A h i vss hh st hc hle => by
    cases hc with
    | cons k1 hc =>
    cases hc with
    | cons k2 hc =>
    cases hc
    rename_i vs1 vs2
    obtain ⟨hz, hTI, hTO, h1, h2⟩ := st
    refine ⟨_, _, _, _, _, GoesN.zip2 S (draw_col (A := A.in1) hh i1 b1 a1 n1 vs1) (draw_col (A := A.in1) hh i2 b2 a2 n2 vs2), ⟨hz, hTI, hTO, ⟨h1, k1⟩, h2, k2⟩, ?_, fun g => ?_, fun ⟨vs, hv, g⟩ => ?_, fun j h' ⟨q1, q2, q3, q4, q5⟩ => ⟨q1, q2, q3, q4.1, q5.1⟩, fun h₀ v h' ⟨T, x, y, e, hT, p1, p2, tup⟩ => ⟨T, [], [x, y], e, hT, tup, .nil, .cons p1 (.cons p2 .nil)⟩⟩
    · intro b hb
      simp only [List.mem_cons, List.not_mem_nil, or_false] at hb ⊢
      rcases hb with rfl | rfl | rfl | rfl <;> simp
    · have := g vs1 (by simp)
      have := g vs2 (by simp)
      omega
    · have e1 := hle vs1 (by simp)
      have e2 := hle vs2 (by simp)
      simp only [List.mem_cons, List.not_mem_nil, or_false] at hv
      rcases hv with rfl | rfl <;> omega
def Zn3 (z TI TO i1 i2 i3 : Addr) (c1 c2 c3 : Col) (i : Nat) (h : Heap) : Prop := IsZip h z TI TO .none ∧ IsTupOf3 h TI (.ref i1) (.ref i2) (.ref i3) ∧ (∃ a1 a2 a3, IsTupOf3 h TO a1 a2 a3) ∧ ItB h c1 i1 i ∧ ItB h c2 i2 i ∧ ItB h c3 i3 i
theorem walk_zip3 {P : Program} {w : World} {elts : List Expr} {kk : Nat} {tpos : Pos} {z TI TO i1 i2 i3 a1 a2 a3 : Addr} {b1 b2 b3 : Bool} (S : ZipSep3 z TI TO i1 i2 i3 [i1, a1] [i2, a2] [i3, a3]) (n1 : a1 ≠ i1) (n2 : a2 ≠ i2) (n3 : a3 ≠ i3) :
    ColWalk P w (.Tuple elts kk tpos) [(b1, a1), (b2, a2), (b3, a3)] (fun _ => []) [z, TI, TO, i1, i2, i3] z (Zn3 z TI TO i1 i2 i3 (b1, a1) (b2, a2) (b3, a3)) where
  mem := List.mem_cons_self
  small := fun _ => by simp
  self := fun A i s Q E st h => wpAny_pyIter_zip st.1 h
  obj := fun i h ⟨hz, hTI, ⟨x, y, u, hTO⟩, h1, h2, h3⟩ b hb => by
    simp only [List.mem_cons, List.not_mem_nil, or_false] at hb
    rcases hb with rfl | rfl | rfl | rfl | rfl | rfl
    · exact ⟨_, hz, fun v q => nomatch q⟩
    · exact ⟨_, hTI, fun v q => nomatch q⟩
    · exact ⟨_, hTO, fun v q => nomatch q⟩
    · exact itb_obj h1
    · exact itb_obj h2
    · exact itb_obj h3
  keep := fun i h h' ⟨hz, hTI, ⟨x, y, u, hTO⟩, h1, h2, h3⟩ k => ⟨k z (by simp) _ hz, k TI (by simp) _ hTI, ⟨x, y, u, k TO (by simp) _ hTO⟩, itb_keep h1 (k i1 (by simp)), itb_keep h2 (k i2 (by simp)), itb_keep h3 (k i3 (by simp))⟩
  goes := fun A h i vss hh st hc hle => by
    cases hc with
    | cons k1 hc =>
    cases hc with
    | cons k2 hc =>
    cases hc with
    | cons k3 hc =>
    cases hc
    rename_i vs1 vs2 vs3
    obtain ⟨hz, hTI, hTO, h1, h2, h3⟩ := st
    refine ⟨_, _, _, _, _, GoesN.zip3 S (draw_col (A := A.in1) hh i1 b1 a1 n1 vs1) (draw_col (A := A.in1) hh i2 b2 a2 n2 vs2) (draw_col (A := A.in1) hh i3 b3 a3 n3 vs3), ⟨hz, hTI, hTO, ⟨h1, k1⟩, ⟨h2, k2⟩, h3, k3⟩, ?_, fun g => ?_, fun ⟨vs, hv, g⟩ => ?_, fun j h' ⟨q1, q2, q3, q4, q5, q6⟩ => ⟨q1, q2, q3, q4.1, q5.1, q6.1⟩, fun h₀ v h' ⟨T, x, y, u, e, hT, p1, p2, p3, tup⟩ => ⟨T, [], [x, y, u], e, hT, tup, .nil, .cons p1 (.cons p2 (.cons p3 .nil))⟩⟩
    · intro b hb
      simp only [List.mem_cons, List.not_mem_nil, or_false] at hb ⊢
      rcases hb with rfl | rfl | rfl | rfl | rfl <;> simp
    · have := g vs1 (by simp)
      have := g vs2 (by simp)
      have := g vs3 (by simp)
      omega
    · have e1 := hle vs1 (by simp)
      have e2 := hle vs2 (by simp)
      have e3 := hle vs3 (by simp)
      simp only [List.mem_cons, List.not_mem_nil, or_false] at hv
      rcases hv with rfl | rfl | rfl <;> omega
def En (e it : Addr) (c : Col) (i : Nat) (h : Heap) : Prop := (∃ old, IsEnum h e it (0 + (i : Int)) old) ∧ ItB h c it i
theorem walk_enum {P : Program} {w : World} {elts : List Expr} {kk : Nat} {tpos : Pos} {e it a : Addr} {b : Bool} (h1 : e ≠ it) (h2 : e ≠ a) (h3 : a ≠ it) : ColWalk P w (.Tuple elts kk tpos) [(b, a)] (fun i => [.int (i : Nat)]) [e, it] e (En e it (b, a)) where
  mem := List.mem_cons_self
  small := fun _ => by simp
  self := fun A i s Q E ⟨⟨_, he⟩, _⟩ h => wpAny_pyIter_enum he h
  obj := fun i h ⟨⟨old, he⟩, h1⟩ b hb => by
    simp only [List.mem_cons, List.not_mem_nil, or_false] at hb
    rcases hb with rfl | rfl
    · exact ⟨_, he, fun v q => nomatch q⟩
    · exact itb_obj h1
  keep := fun i h h' ⟨⟨old, he⟩, h1⟩ k => ⟨⟨old, k e (by simp) _ he⟩, itb_keep h1 (k it (by simp))⟩
  goes := fun A h i vss hh st hc hle => by
    cases hc with
    | cons k1 hc =>
    cases hc
    rename_i vs1
    refine ⟨_, _, _, _, _, GoesN.enumFrom 0 (draw_col (A := A.in1) hh it b a h3 vs1) e h1 (by simp [h1, h2]) (by simp), ⟨st.1, st.2, k1⟩, ?_, fun g => g vs1 (by simp), fun ⟨vs, hv, g⟩ => ?_, fun j h' q => ⟨q.1, q.2.1⟩, fun h₀ v h' ⟨T, t, x, ev, hT, p1, tup⟩ => ⟨T, [.int (0 + (i : Int)) t], [x], ev, hT, tup, .cons ⟨t, by rw [Int.zero_add]⟩ .nil, .cons p1 .nil⟩⟩
    · intro b hb
      exact hb
    · have e1 := hle vs1 (by simp)
      simp only [List.mem_cons, List.not_mem_nil, or_false] at hv
      rw [hv] at g
      omega

theorem cont_lt {h : Heap} {b : Bool} {a : Addr} {its : List Value} (c : Cont h (b, a) its) : a < h.objs.size := by
  cases b with
  | true =>
    obtain ⟨o, e, _⟩ := c
    exact Heap.lt_size e
  | false =>
    obtain ⟨o, e, _⟩ := c
    exact Heap.lt_size e
theorem ne_nat {x y : Addr} (h : ¬ @Eq Nat x y) : x ≠ y := h
theorem notin2 {x y z : Addr} (h : ¬ @Eq Nat x y) (h' : ¬ @Eq Nat x z) : x ∉ ([y, z] : List Addr) := fun m => by
  rcases List.mem_cons.mp m with e | m
  · exact h e
  · exact h' (List.mem_singleton.mp m)
theorem sep2 (n a1 a2 : Nat) (l1 : a1 < n) (l2 : a2 < n) : ZipSep2 (n + 4) (n + 2) (n + 3) n (n + 1) [n, a1] [n + 1, a2] := by
  constructor <;> first | exact List.mem_cons_self | exact ne_nat (by omega) | exact notin2 (by omega) (by omega)
theorem sep3 (n a1 a2 a3 : Nat) (l1 : a1 < n) (l2 : a2 < n) (l3 : a3 < n) : ZipSep3 (n + 5) (n + 3) (n + 4) n (n + 1) (n + 2) [n, a1] [n + 1, a2] [n + 2, a3] := by
  constructor <;> first | exact List.mem_cons_self | exact ne_nat (by omega) | exact notin2 (by omega) (by omega)
theorem le_nat {x y : Addr} (h : @LE.le Nat _ x y) : x ≤ y := h
def iZc2 (K : PySem.W.Frag) (ta : TA) : TI := fun σ H R => ta σ H fun vs H1 => ∃ a1 a2 b1 b2 xs ys, vs = [.ref a1, .ref a2] ∧ SqB K H1 b1 a1 xs ∧ SqB K H1 b2 a2 ys ∧ R (ItZ K [(b1, a1), (b2, a2)] fun _ => []) H1
def iZc3 (K : PySem.W.Frag) (ta : TA) : TI := fun σ H R => ta σ H fun vs H1 => ∃ a1 a2 a3 b1 b2 b3 xs ys zs, vs = [.ref a1, .ref a2, .ref a3] ∧ SqB K H1 b1 a1 xs ∧ SqB K H1 b2 a2 ys ∧ SqB K H1 b3 a3 zs ∧ R (ItZ K [(b1, a1), (b2, a2), (b3, a3)] fun _ => []) H1
def iEc (K : PySem.W.Frag) (ta : TA) : TI := fun σ H R => ta σ H fun vs H1 => ∃ a b xs, vs = [.ref a] ∧ SqB K H1 b a xs ∧ R (ItZ K [(b, a)] fun i => [.int (i : Nat)]) H1
section
variable {X : Cx} {a b c : Expr} {ta : TA} {p pos tpos : Pos} {elts : List Expr} {kk : Nat}
theorem pie_new {pins : List (Addr × Obj)} {σ : L2.St} {tg : Expr} {H1 : Hp} {s1 : Shared} {h' : Heap} {R : It → Hp → Prop} {J : It} {it : Addr} {fp : List Addr} {tn : Nat → Heap → Prop} (I1 : Inv X pins σ H1 s1) (k : ∀ c o, s1.heap.get? c = some o → h'.get? c = some o) (hf : ∀ b ∈ fp, s1.heap.objs.size ≤ b) (hT : Turn X.prog X.w X.K tg J fp it tn) (h0 : tn 0 h') (q : R J H1) :
    PIE X pins σ tg R (.ref it) { s1 with heap := h' } :=
  ⟨it, fp, tn, J, H1, rfl, I1.kept (t' := s1.toks) k, hT, h0, fun b hb => I1.fpOk (hf b hb) (I1.hok.fresh (hf b hb)), q⟩
theorem pi_zc2 (hg : Gl X "zip") (hm : X.mg "zip" = none) (ha : PA X [a, b] ta) (hs : starEach [a, b] X.env = (false, eval a X.env) :: starEach [b] X.env := by rfl) (hpl : (backTo pos (starEach [b] X.env)).any (·.1) = false := by rfl) : PI X (.Tuple elts kk tpos) (.Call (.Name "zip" p) [a, b] [] pos) (iZc2 X.K ta) := ⟨fun pins s σ H R I h => by
  refine Call_ (ld_blt I hg hm PyProof.Rows.boot_zip (PyProof.Rows.callWith_type1 (thn (ha.run pos pins s σ H _ I h) fun us s1 ⟨vs, H1, I1, r1, q1⟩ => ?_) hs hpl))
  obtain ⟨a1, a2, b1, b2, xs, ys, rfl, h1, h2, q⟩ := q1
  obtain ⟨u1, u2, rfl, e1, e2⟩ := vals2 r1
  cases e1
  cases e2
  obtain ⟨its1, _, c1⟩ := sqb_cont I1 h1
  obtain ⟨its2, _, c2⟩ := sqb_cont I1 h2
  have l1 := cont_lt c1
  have l2 := cont_lt c2
  generalize hn : s1.heap.objs.size = n at l1 l2
  refine zip_begins2 (beg_col b1 a1 its1) (beg_col b2 a2 its2) c1 c2 fun h' hz hTI hTO g1 g2 hsz hk => wpAny_pyIter_zip hz ?_
  rw [hn] at hz hTI hTO g1 g2 ⊢
  have S := sep2 n a1 a2 l1 l2
  exact pie_new I1 hk (fun b hb => by
    rw [hn]
    simp only [List.mem_cons, List.not_mem_nil, or_false] at hb
    rcases hb with rfl | rfl | rfl | rfl | rfl <;> first | exact Nat.le_add_right _ _ | exact Nat.le_refl _) (turn_cols (walk_zip2 S (Nat.ne_of_lt l1) (Nat.ne_of_lt (Nat.lt_succ_of_lt l2)))) ⟨hz, hTI, ⟨_, _, hTO⟩, itb_new g1, itb_new g2⟩ q⟩
theorem pi_zc3 (hg : Gl X "zip") (hm : X.mg "zip" = none) (ha : PA X [a, b, c] ta) (hs : starEach [a, b, c] X.env = (false, eval a X.env) :: starEach [b, c] X.env := by rfl) (hpl : (backTo pos (starEach [b, c] X.env)).any (·.1) = false := by rfl) : PI X (.Tuple elts kk tpos) (.Call (.Name "zip" p) [a, b, c] [] pos) (iZc3 X.K ta) := ⟨fun pins s σ H R I h => by
  refine Call_ (ld_blt I hg hm PyProof.Rows.boot_zip (PyProof.Rows.callWith_type1 (thn (ha.run pos pins s σ H _ I h) fun us s1 ⟨vs, H1, I1, r1, q1⟩ => ?_) hs hpl))
  obtain ⟨a1, a2, a3, b1, b2, b3, xs, ys, zs, rfl, h1, h2, h3, q⟩ := q1
  cases r1 with
  | cons e1 r1 =>
  obtain ⟨u2, u3, rfl, e2, e3⟩ := vals2 r1
  cases e1
  cases e2
  cases e3
  obtain ⟨its1, _, c1⟩ := sqb_cont I1 h1
  obtain ⟨its2, _, c2⟩ := sqb_cont I1 h2
  obtain ⟨its3, _, c3⟩ := sqb_cont I1 h3
  have l1 := cont_lt c1
  have l2 := cont_lt c2
  have l3 := cont_lt c3
  generalize hn : s1.heap.objs.size = n at l1 l2 l3
  refine zip_begins3 (beg_col b1 a1 its1) (beg_col b2 a2 its2) (beg_col b3 a3 its3) c1 c2 c3 fun h' hz hTI hTO g1 g2 g3 hsz hk => wpAny_pyIter_zip hz ?_
  rw [hn] at hz hTI hTO g1 g2 g3 ⊢
  have S := sep3 n a1 a2 a3 l1 l2 l3
  exact pie_new I1 hk (fun b hb => by
    rw [hn]
    simp only [List.mem_cons, List.not_mem_nil, or_false] at hb
    rcases hb with rfl | rfl | rfl | rfl | rfl | rfl <;> first | exact Nat.le_add_right _ _ | exact Nat.le_refl _) (turn_cols (walk_zip3 S (Nat.ne_of_lt l1) (Nat.ne_of_lt (Nat.lt_succ_of_lt l2)) (Nat.ne_of_lt (Nat.lt_succ_of_lt (Nat.lt_succ_of_lt l3))))) ⟨hz, hTI, ⟨_, _, _, hTO⟩, itb_new g1, itb_new g2, itb_new g3⟩ q⟩
set_option maxHeartbeats 8000000 in
/-- enumerate(v): as with a start, without one -/
theorem enum_made {v : Value} {o : Obj} {Hb : Heap → Prop} (B : Begins v o Hb) :
    Meets (Builtin.«enumerate.__new__» ⟨[.type "enumerate", v], []⟩) fun _ R s => Hb s.heap ∧
      R (.ok (.ret (.ref (s.heap.push o).objs.size))) { s with heap := (s.heap.push o).push { cls := .type "enumerate", data := .fields #[.none, .bool false, .ref s.heap.objs.size, rawInt 0, .none, .none] } } :=
  Meets.of_wp fun P w A R s h => by
    obtain ⟨hp, g, d, tk, os⟩ := s
    obtain ⟨hb, h⟩ := h
    have isub := sub_enumerate
    have it1 : ∀ {A' : Around} {E : Value → Shared → Prop} {Q : Value → Shared → Prop}, Q (.ref hp.objs.size) ⟨hp.push o, g, d, tk, os⟩ → wpAny (model P w) A' (pyIter v) Q E ⟨hp, g, d, tk, os⟩ := fun q => B.iter P w _ _ ⟨hp, g, d, tk, os⟩ _ hb q
    wp_walk using it1
    refine wpAny_stack_any fun st => wpAny_pure ?_
    split
    · rename_i k _ _ _ _ _
      cases k == Value.type "enumerate" <;> (wp_walk using it1; exact Exists.intro _ (And.intro rfl h))
    · wp_walk using it1
      exact Exists.intro _ (And.intro rfl h)
theorem enum_call {P : Program} {w : World} {A : Around} {E : Value → Shared → Prop} {s : Shared} {v : Value} {o : Obj} {Hb : Heap → Prop} {Q : Value → Shared → Prop} (B : Begins v o Hb) (hb : Hb s.heap)
    (h : ∀ h', IsEnum h' (s.heap.objs.size + 1) s.heap.objs.size 0 .none → h'.get? s.heap.objs.size = some o → (∀ b o, s.heap.get? b = some o → h'.get? b = some o) → Q (.ref (s.heap.objs.size + 1)) { s with heap := h' }) : wpAny (model P w) A (call (.type "enumerate") [v]) Q E s := by
  refine callType_new F.called_enumerate (by decide) (F.typeCall_enumerate_1 _) (F.newCall_enumerate_1 _) (fun ob => F.args_object_init_2 ob _) F.entry_enumerate_new (enum_made B) ⟨hb, ?_⟩
  have sz : (s.heap.push o).objs.size = s.heap.objs.size + 1 := Heap.size_push _ _
  have e1 := Heap.get?_push_size (s.heap.push o) (o := { cls := .type "enumerate", data := .fields #[.none, .bool false, .ref s.heap.objs.size, rawInt 0, .none, .none] }) rfl
  rw [sz] at e1
  show _ ∧ _
  rw [sz]
  exact ⟨⟨_, e1, rfl⟩, h _ e1 (Heap.get?_push_of_some _ (Heap.get?_push_size _ B.free)) fun b o z => Heap.get?_push_of_some _ (Heap.get?_push_of_some _ z)⟩
theorem pi_ec (hg : Gl X "enumerate") (hm : X.mg "enumerate" = none) (ha : PA X [a] ta) (hs : starEach [a] X.env = [(false, eval a X.env)] := by rfl) : PI X (.Tuple elts kk tpos) (.Call (.Name "enumerate" p) [a] [] pos) (iEc X.K ta) := ⟨fun pins s σ H R I h => by
  refine Call_ (ld_blt I hg hm boot_enumerate (PyProof.Rows.callWith_type1 (thn (ha.run pos pins s σ H _ I h) fun us s1 ⟨vs, H1, I1, r1, q1⟩ => ?_) hs rfl))
  obtain ⟨a1, b1, xs, rfl, h1, q⟩ := q1
  obtain ⟨u1, rfl, e1⟩ := vals1 r1
  cases e1
  obtain ⟨its1, _, c1⟩ := sqb_cont I1 h1
  have l1 := cont_lt c1
  refine enum_call (beg_col b1 a1 its1) c1 fun h' he g1 hk => wpAny_pyIter_enum he ?_
  exact pie_new I1 hk (fun b hb => by
    simp only [List.mem_cons, List.not_mem_nil, or_false] at hb
    rcases hb with rfl | rfl <;> first | exact Nat.le_add_right _ _ | exact Nat.le_refl _) (turn_cols (walk_enum (e := s1.heap.objs.size + 1) (it := s1.heap.objs.size) (Nat.succ_ne_self _) (Nat.ne_of_gt (Nat.lt_succ_of_lt l1)) (Nat.ne_of_lt l1))) ⟨⟨_, he⟩, itb_new g1⟩ q⟩
end
end Py

set_option Elab.async false
set_option linter.all false
set_option maxRecDepth 100000
set_option maxHeartbeats 4000000
/-! P14: zip and enumerate as loops walk them. -/
namespace Py
open PySem PySem.Spec PyProof.Rows L2
def z2 : List IV → List IV → List IV
  | x :: xs, y :: ys => .tup [x, y] :: z2 xs ys
  | _, _ => []
def z3 : List IV → List IV → List IV → List IV
  | x :: xs, y :: ys, z :: zs => .tup [x, y, z] :: z3 xs ys zs
  | _, _, _ => []
def enI : Nat → List IV → List IV
  | k, x :: xs => .tup [.int (k : Nat), x] :: enI (k + 1) xs
  | _, [] => []
def srcZ2 (f g : Src) : Src := fun s => match f s, g s with
  | some xs, some ys => some (z2 xs ys)
  | _, _ => none
def srcZ3 (f g h : Src) : Src := fun s => match f s, g s, h s with
  | some xs, some ys, some zs => some (z3 xs ys zs)
  | _, _, _ => none
def srcE (f : Src) : Src := fun s => match f s with
  | some xs => some (enI 0 xs)
  | _ => none
def itZ2 (oa ob : Opd) : M Src := fun s => (runL [oa, ob] s).bind fun ps s1 => match ps with
  | [p1, p2] => (match srcOf (kindOf p1 s1) p1 s1, srcOf (kindOf p2 s1) p2 s1 with
    | some _, some _ => .ok (srcZ2 (srcOf (kindOf p1 s1) p1) (srcOf (kindOf p2 s1) p2)) s1
    | _, _ => .bad)
  | _ => .bad
def itZ3 (oa ob oc : Opd) : M Src := fun s => (runL [oa, ob, oc] s).bind fun ps s1 => match ps with
  | [p1, p2, p3] => (match srcOf (kindOf p1 s1) p1 s1, srcOf (kindOf p2 s1) p2 s1, srcOf (kindOf p3 s1) p3 s1 with
    | some _, some _, some _ => .ok (srcZ3 (srcOf (kindOf p1 s1) p1) (srcOf (kindOf p2 s1) p2) (srcOf (kindOf p3 s1) p3)) s1
    | _, _, _ => .bad)
  | _ => .bad
def itE (oa : Opd) : M Src := fun s => (runL [oa] s).bind fun ps s1 => match ps with
  | [p1] => (match srcOf (kindOf p1 s1) p1 s1 with
    | some _ => .ok (srcE (srcOf (kindOf p1 s1) p1)) s1
    | _ => .bad)
  | _ => .bad
section
variable {K : PySem.W.Frag} {T : Tp} {W : WX} {φ φ1 : List Addr} {σ : L2.St} {H H1 : Hp} {s s1 : S}
/-- what the columns tell at a state -/
structure ColSt (K : PySem.W.Frag) (φ : List Addr) (H : Hp) (cs : List Col) (pre : Nat → List V) (ws : List IV) : Prop where
  ok : ∃ (vss : List (List IV)) (xss : List (List V)), F2 (fun (c : Col) (xs : List V) => SqB K H c.1 c.2 xs) cs xss ∧ F2 (fun (vs : List IV) (xs : List V) => RvL K φ H vs xs) vss xss ∧
    (∀ k x, ws[k]? = some x → ∃ pv row, x = .tup (pv ++ row) ∧ RvL K φ H pv (pre k) ∧ F2 (fun (vs : List IV) (y : IV) => vs[k]? = some y) vss row) ∧ (∀ vs ∈ vss, ws.length ≤ vs.length) ∧ ∃ vs ∈ vss, vs.length ≤ ws.length
theorem row_rv {k : Nat} : ∀ {cs : List Col} {xss : List (List V)} {vss : List (List IV)} {row : List IV} {r : List V}, F2 (fun (c : Col) (xs : List V) => SqB K H c.1 c.2 xs) cs xss → F2 (fun (vs : List IV) (xs : List V) => RvL K φ H vs xs) vss xss → F2 (fun (vs : List IV) (y : IV) => vs[k]? = some y) vss row →
    F2 (fun (c : Col) (x : V) => ∀ xs, SqB K H c.1 c.2 xs → xs[k]? = some x) cs r → RvL K φ H row r
  | _, _, _, _, _, .nil, .nil, .nil, .nil => .nil
  | _, _, _, _, _, .cons h t, .cons h2 t2, .cons h3 t3, .cons h4 t4 => by
    obtain ⟨v, e, rv⟩ := h2.get h3
    rw [h4 _ h] at e
    cases e
    exact RvL.cons rv (row_rv t t2 t3 t4)
theorem src_cols {is : List Nat} {cs : List Col} {pre : Nat → List V} {f : Src} {env : List (Option RV)}
    (h : ∀ φ' s' σ' H' ws, φ <+: φ' → Ext (Mi φ env σ) H (Mi φ' s'.env σ') H' → Rel K T φ' σ' H' s' → (∀ i ∈ is, σ'[i]? = σ[i]?) → f s' = some ws → ColSt K φ' H' cs pre ws) : SrcR K T is φ env σ H f (ItZ K cs pre) := fun φ' s' σ' H' ws pr e rel hs hv => by
  obtain ⟨vss, xss, c1, c2, row, l1, vs0, hv0, l2⟩ := (h φ' s' σ' H' ws pr e rel hs hv).ok
  refine ⟨fun k x hx => ⟨fun c hc => ?_, fun v H2 ⟨t, r, e1, e2, e3, e4⟩ => ?_⟩, fun c hc => ?_, ?_⟩
  · obtain ⟨xs, hxs, sq⟩ := c1.mem1 c hc
    obtain ⟨vs, hvs, rv⟩ := c2.mem2 xs hxs
    have lk : k < ws.length := (List.getElem?_eq_some_iff.mp hx).1
    exact ⟨xs, sq, by rw [← rv.length]; exact Nat.lt_of_lt_of_le lk (l1 vs hvs)⟩
  · subst e1 e3
    obtain ⟨pv, rw', rfl, p1, p2⟩ := row k x hx
    have x1 : Ext (Mi φ' s'.env σ') H' (fun a => Mi φ' s'.env σ' a ∨ a = t) (upd H' t (.tup (pre k ++ r))) := Ext.alloc e2
    have rr := p1.append (row_rv c1 c2 p2 e4)
    exact ⟨x1.less fun a z => .inl z, rel.alloc e2, .tup (.of upd_same) (rr.ext (List.prefix_refl _) x1) .nil⟩
  · obtain ⟨xs, hxs, sq⟩ := c1.mem1 c hc
    obtain ⟨vs, hvs, rv⟩ := c2.mem2 xs hxs
    exact ⟨xs, sq, by rw [← rv.length]; exact l1 vs hvs⟩
  · obtain ⟨xs, hxs, rv⟩ := c2.mem1 vs0 hv0
    obtain ⟨c, hc, sq⟩ := c1.mem2 xs hxs
    exact ⟨c, hc, xs, sq, by rw [← rv.length]; exact l2⟩
theorem z2_get : ∀ {xs ys : List IV} {k : Nat} {x : IV}, (z2 xs ys)[k]? = some x → ∃ a b, x = .tup [a, b] ∧ xs[k]? = some a ∧ ys[k]? = some b
  | a :: xs, b :: ys, 0, x, h => by
    cases h
    exact ⟨a, b, rfl, rfl, rfl⟩
  | a :: xs, b :: ys, k + 1, x, h => z2_get (xs := xs) (ys := ys) (k := k) h
  | [], _, _, _, h => by cases h
  | _ :: _, [], _, _, h => by cases h
theorem z2_len : ∀ {xs ys : List IV}, (z2 xs ys).length = min xs.length ys.length
  | a :: xs, b :: ys => by simp [z2, z2_len (xs := xs) (ys := ys)]
  | [], _ => by simp [z2]
  | _ :: _, [] => by simp [z2]
theorem z3_get : ∀ {xs ys zs : List IV} {k : Nat} {x : IV}, (z3 xs ys zs)[k]? = some x → ∃ a b c, x = .tup [a, b, c] ∧ xs[k]? = some a ∧ ys[k]? = some b ∧ zs[k]? = some c
  | a :: xs, b :: ys, c :: zs, 0, x, h => by
    cases h
    exact ⟨a, b, c, rfl, rfl, rfl, rfl⟩
  | a :: xs, b :: ys, c :: zs, k + 1, x, h => z3_get (xs := xs) (ys := ys) (zs := zs) (k := k) h
  | [], _, _, _, _, h => by cases h
  | _ :: _, [], _, _, _, h => by cases h
  | _ :: _, _ :: _, [], _, _, h => by cases h
theorem z3_len : ∀ {xs ys zs : List IV}, (z3 xs ys zs).length = min (min xs.length ys.length) zs.length
  | a :: xs, b :: ys, c :: zs => by simp [z3, z3_len (xs := xs) (ys := ys) (zs := zs)]
  | [], _, _ => by simp [z3]
  | _ :: _, [], _ => by simp [z3]
  | _ :: _, _ :: _, [] => by simp [z3]
theorem enI_get : ∀ {xs : List IV} {j k : Nat} {x : IV}, (enI j xs)[k]? = some x → ∃ a, x = .tup [.int ((j + k : Nat) : Int), a] ∧ xs[k]? = some a
  | a :: xs, j, 0, x, h => by
    cases h
    exact ⟨a, rfl, rfl⟩
  | a :: xs, j, k + 1, x, h => by
    obtain ⟨b, e1, e2⟩ := enI_get (xs := xs) (j := j + 1) (k := k) h
    exact ⟨b, by rw [e1]; congr 4; omega, e2⟩
  | [], _, _, _, h => by cases h
theorem enI_len : ∀ {xs : List IV} {j : Nat}, (enI j xs).length = xs.length
  | a :: xs, j => by simp [enI, enI_len (xs := xs)]
  | [], _ => rfl
theorem col_z2 {φ : List Addr} {a1 a2 : Addr} {b1 b2 : Bool} {vs1 vs2 : List IV} {xs1 xs2 : List V} (r1 : RvL K φ H vs1 xs1) (q1 : SqB K H b1 a1 xs1) (r2 : RvL K φ H vs2 xs2) (q2 : SqB K H b2 a2 xs2) : ColSt K φ H [(b1, a1), (b2, a2)] (fun _ => []) (z2 vs1 vs2) := by
  refine ⟨[vs1, vs2], [xs1, xs2], .cons q1 (.cons q2 .nil), .cons r1 (.cons r2 .nil), fun k x hx => ?_, fun vs hv => ?_, ?_⟩
  · obtain ⟨a, b, rfl, e1, e2⟩ := z2_get hx
    exact ⟨[], [a, b], rfl, .nil, .cons e1 (.cons e2 .nil)⟩
  · simp only [List.mem_cons, List.not_mem_nil, or_false] at hv
    rw [z2_len]
    rcases hv with rfl | rfl <;> omega
  · rw [z2_len]
    by_cases h : vs1.length ≤ vs2.length
    · exact ⟨vs1, by simp, by omega⟩
    · exact ⟨vs2, by simp, by omega⟩
theorem col_z3 {φ : List Addr} {a1 a2 a3 : Addr} {b1 b2 b3 : Bool} {vs1 vs2 vs3 : List IV} {xs1 xs2 xs3 : List V} (r1 : RvL K φ H vs1 xs1) (q1 : SqB K H b1 a1 xs1) (r2 : RvL K φ H vs2 xs2) (q2 : SqB K H b2 a2 xs2) (r3 : RvL K φ H vs3 xs3) (q3 : SqB K H b3 a3 xs3) : ColSt K φ H [(b1, a1), (b2, a2), (b3, a3)] (fun _ => []) (z3 vs1 vs2 vs3) := by
  refine ⟨[vs1, vs2, vs3], [xs1, xs2, xs3], .cons q1 (.cons q2 (.cons q3 .nil)), .cons r1 (.cons r2 (.cons r3 .nil)), fun k x hx => ?_, fun vs hv => ?_, ?_⟩
  · obtain ⟨a, b, c, rfl, e1, e2, e3⟩ := z3_get hx
    exact ⟨[], [a, b, c], rfl, .nil, .cons e1 (.cons e2 (.cons e3 .nil))⟩
  · simp only [List.mem_cons, List.not_mem_nil, or_false] at hv
    rw [z3_len]
    rcases hv with rfl | rfl | rfl <;> omega
  · rw [z3_len]
    by_cases h : vs1.length ≤ vs2.length ∧ vs1.length ≤ vs3.length
    · exact ⟨vs1, by simp, by omega⟩
    · by_cases h2 : vs2.length ≤ vs3.length
      · exact ⟨vs2, by simp, by omega⟩
      · exact ⟨vs3, by simp, by omega⟩
theorem col_e {φ : List Addr} {a1 : Addr} {b1 : Bool} {vs1 : List IV} {xs1 : List V} (r1 : RvL K φ H vs1 xs1) (q1 : SqB K H b1 a1 xs1) : ColSt K φ H [(b1, a1)] (fun i => [.int (i : Nat)]) (enI 0 vs1) := by
  refine ⟨[vs1], [xs1], .cons q1 .nil, .cons r1 .nil, fun k x hx => ?_, fun vs hv => ?_, vs1, by simp, by rw [enI_len]; exact Nat.le_refl _⟩
  · obtain ⟨a, rfl, e1⟩ := enI_get hx
    rw [Nat.zero_add]
    exact ⟨[.int (k : Nat)], [a], rfl, Rv.int, .cons e1 .nil⟩
  · simp only [List.mem_cons, List.not_mem_nil, or_false] at hv
    rw [hv, enI_len]
    exact Nat.le_refl _
end
section
variable {X : Cx} {T : Tp} {W : WX} {a b c : Expr} {oa ob oc : Opd} {p pos tpos : Pos} {elts : List Expr} {kk : Nat}
theorem si_zip2 (hg : Gl X "zip") (hm : X.mg "zip" = none) (ha : SA X T W [a, b] [oa, ob]) (hs : starEach [a, b] X.env = (false, eval a X.env) :: starEach [b] X.env := by rfl) (hpl : (backTo pos (starEach [b] X.env)).any (·.1) = false := by rfl) : SI X T W (.Tuple elts kk tpos) (.Call (.Name "zip" p) [a, b] [] pos) ([oa, ob].flatMap opSl) (itZ2 oa ob) :=
  PI.imp (pi_zc2 hg hm ha hs hpl) fun σ H R ⟨φ, s, rel, hp⟩ => by
    refine args_step' rel hp (fun _ z => z) _ fun xs H1 φ1 s1 ps lps sl pr ex rel1 pn1 hp => ?_
    match ps, xs, lps, pn1, hp with
    | [p1, p2], [x1, x2], _, pn1, hp =>
      cases q1 : srcOf (kindOf p1 s1) p1 s1 with
      | none =>
        simp only [q1] at hp
        exact (show False from hp).elim
      | some vs1 =>
        cases q2 : srcOf (kindOf p2 s1) p2 s1 with
        | none =>
          simp only [q1, q2] at hp
          exact (show False from hp).elim
        | some vs2 =>
          simp only [q1, q2] at hp
          generalize kindOf p1 s1 = k1 at hp q1
          generalize kindOf p2 s1 = k2 at hp q2
          have s1l : ∀ i, p1 = .inl i → i ∈ [oa, ob].flatMap opSl := fun i e => sl i (by simp [e])
          have s2l : ∀ i, p2 = .inl i → i ∈ [oa, ob].flatMap opSl := fun i e => sl i (by simp [e])
          have x0 : Ext (Mi φ1 s1.env σ) H1 (Mi φ1 s1.env σ) H1 := Ext.refl
          obtain ⟨a1, xs1, rfl, rv1, sq1⟩ := src_later pn1.1 s1l (List.prefix_refl _) x0 rel1 (fun _ _ => rfl) q1
          obtain ⟨a2, xs2, rfl, rv2, sq2⟩ := src_later pn1.2.1.1 s2l (List.prefix_refl _) x0 rel1 (fun _ _ => rfl) q2
          refine ⟨a1, a2, k1, k2, xs1, xs2, rfl, sq1, sq2, hp φ1 H1 _ (List.prefix_refl _) (Ext.refl.less fun p z => z.elim (fun z => .inr (.inl z)) fun z => z.elim) rel1 (src_cols fun φ' s' σ' H' ws pr' e' rel' hs hv => ?_)⟩
          unfold srcZ2 at hv
          split at hv
          · rename_i us1 us2 f1 f2
            cases hv
            obtain ⟨_, ys1, e1, rv1', sq1'⟩ := src_later pn1.1 s1l pr' e' rel' hs f1
            obtain ⟨_, ys2, e2, rv2', sq2'⟩ := src_later pn1.2.1.1 s2l pr' e' rel' hs f2
            cases e1
            cases e2
            exact col_z2 rv1' sq1' rv2' sq2'
          · cases hv
theorem si_zip3 (hg : Gl X "zip") (hm : X.mg "zip" = none) (ha : SA X T W [a, b, c] [oa, ob, oc]) (hs : starEach [a, b, c] X.env = (false, eval a X.env) :: starEach [b, c] X.env := by rfl) (hpl : (backTo pos (starEach [b, c] X.env)).any (·.1) = false := by rfl) : SI X T W (.Tuple elts kk tpos) (.Call (.Name "zip" p) [a, b, c] [] pos) ([oa, ob, oc].flatMap opSl) (itZ3 oa ob oc) :=
  PI.imp (pi_zc3 hg hm ha hs hpl) fun σ H R ⟨φ, s, rel, hp⟩ => by
    refine args_step' rel hp (fun _ z => z) _ fun xs H1 φ1 s1 ps lps sl pr ex rel1 pn1 hp => ?_
    match ps, xs, lps, pn1, hp with
    | [p1, p2, p3], [x1, x2, x3], _, pn1, hp =>
      cases q1 : srcOf (kindOf p1 s1) p1 s1 with
      | none =>
        simp only [q1] at hp
        exact (show False from hp).elim
      | some vs1 =>
        cases q2 : srcOf (kindOf p2 s1) p2 s1 with
        | none =>
          simp only [q1, q2] at hp
          exact (show False from hp).elim
        | some vs2 =>
        cases q3 : srcOf (kindOf p3 s1) p3 s1 with
        | none =>
          simp only [q1, q2, q3] at hp
          exact (show False from hp).elim
        | some vs3 =>
          simp only [q1, q2, q3] at hp
          generalize kindOf p1 s1 = k1 at hp q1
          generalize kindOf p2 s1 = k2 at hp q2
          generalize kindOf p3 s1 = k3 at hp q3
          have s1l : ∀ i, p1 = .inl i → i ∈ [oa, ob, oc].flatMap opSl := fun i e => sl i (by simp [e])
          have s2l : ∀ i, p2 = .inl i → i ∈ [oa, ob, oc].flatMap opSl := fun i e => sl i (by simp [e])
          have s3l : ∀ i, p3 = .inl i → i ∈ [oa, ob, oc].flatMap opSl := fun i e => sl i (by simp [e])
          have x0 : Ext (Mi φ1 s1.env σ) H1 (Mi φ1 s1.env σ) H1 := Ext.refl
          obtain ⟨a1, xs1, rfl, rv1, sq1⟩ := src_later pn1.1 s1l (List.prefix_refl _) x0 rel1 (fun _ _ => rfl) q1
          obtain ⟨a2, xs2, rfl, rv2, sq2⟩ := src_later pn1.2.1.1 s2l (List.prefix_refl _) x0 rel1 (fun _ _ => rfl) q2
          obtain ⟨a3, xs3, rfl, rv3, sq3⟩ := src_later pn1.2.1.2.1.1 s3l (List.prefix_refl _) x0 rel1 (fun _ _ => rfl) q3
          refine ⟨a1, a2, a3, k1, k2, k3, xs1, xs2, xs3, rfl, sq1, sq2, sq3, hp φ1 H1 _ (List.prefix_refl _) (Ext.refl.less fun p z => z.elim (fun z => .inr (.inl z)) fun z => z.elim) rel1 (src_cols fun φ' s' σ' H' ws pr' e' rel' hs hv => ?_)⟩
          unfold srcZ3 at hv
          split at hv
          · rename_i us1 us2 us3 f1 f2 f3
            cases hv
            obtain ⟨_, ys1, e1, rv1', sq1'⟩ := src_later pn1.1 s1l pr' e' rel' hs f1
            obtain ⟨_, ys2, e2, rv2', sq2'⟩ := src_later pn1.2.1.1 s2l pr' e' rel' hs f2
            obtain ⟨_, ys3, e3, rv3', sq3'⟩ := src_later pn1.2.1.2.1.1 s3l pr' e' rel' hs f3
            cases e1
            cases e2
            cases e3
            exact col_z3 rv1' sq1' rv2' sq2' rv3' sq3'
          · cases hv
theorem si_enum (hg : Gl X "enumerate") (hm : X.mg "enumerate" = none) (ha : SA X T W [a] [oa]) (hs : starEach [a] X.env = [(false, eval a X.env)] := by rfl) : SI X T W (.Tuple elts kk tpos) (.Call (.Name "enumerate" p) [a] [] pos) ([oa].flatMap opSl) (itE oa) :=
  PI.imp (pi_ec hg hm ha hs) fun σ H R ⟨φ, s, rel, hp⟩ => by
    refine args_step' rel hp (fun _ z => z) _ fun xs H1 φ1 s1 ps lps sl pr ex rel1 pn1 hp => ?_
    match ps, xs, lps, pn1, hp with
    | [p1], [x1], _, pn1, hp =>
      cases q1 : srcOf (kindOf p1 s1) p1 s1 with
      | none =>
        simp only [q1] at hp
        exact (show False from hp).elim
      | some vs1 =>
        simp only [q1] at hp
        generalize kindOf p1 s1 = k1 at hp q1
        have s1l : ∀ i, p1 = .inl i → i ∈ [oa].flatMap opSl := fun i e => sl i (by simp [e])
        have x0 : Ext (Mi φ1 s1.env σ) H1 (Mi φ1 s1.env σ) H1 := Ext.refl
        obtain ⟨a1, xs1, rfl, rv1, sq1⟩ := src_later pn1.1 s1l (List.prefix_refl _) x0 rel1 (fun _ _ => rfl) q1
        refine ⟨a1, k1, xs1, rfl, sq1, hp φ1 H1 _ (List.prefix_refl _) (Ext.refl.less fun p z => z.elim (fun z => .inr (.inl z)) fun z => z.elim) rel1 (src_cols fun φ' s' σ' H' ws pr' e' rel' hs hv => ?_)⟩
        unfold srcE at hv
        split at hv
        · rename_i us1 f1
          cases hv
          obtain ⟨_, ys1, e1, rv1', sq1'⟩ := src_later pn1.1 s1l pr' e' rel' hs f1
          cases e1
          exact col_e rv1' sq1'
        · cases hv
end
end Py

set_option Elab.async false
set_option linter.all false
set_option maxRecDepth 100000
set_option maxHeartbeats 4000000
/-! P15: defs as plain functions; calls, methods, classes made. -/
namespace Py
open PySem PySem.Spec PyProof.Rows L2

/-! ### the plain side -/
inductive Fo where
  | ok (r : RV) (hp : List IO) | exn (c : Str) (fs : List (Str × IV)) (hp : List IO) | bad
abbrev Fn := List RV → List IO → Fo
/-- a def: n slots, the first np its parameters -/
def mkFn (n np : Nat) (body : M Fl) : Fn := fun rs hp => match decide (rs.length = np) && decide (np ≤ n) with
  | true => (match body ⟨rs.map some ++ List.replicate (n - np) none, hp⟩ with
    | .ok .nx s => .ok (.v .non) s.hp
    | .ok (.rt (.f _)) _ => .bad
    | .ok (.rt r) s => .ok r s.hp
    | .exn c fs s => .exn c fs s.hp
    | _ => .bad)
  | false => .bad
/-- no exception leaves it -/
def noX (f : Fn) : Fn := fun rs hp => match f rs hp with
  | .exn _ _ _ => .bad
  | o => o
def gCall (f : Fn) : G RV := fun rs s => match f rs s.hp with
  | .ok r hp => .ok r ⟨s.env, hp⟩
  | .exn c fs hp => .exn c fs ⟨s.env, hp⟩
  | .bad => .bad
def mCall (f : Fn) (os : List Opd) : M RV := mN os (gCall f)
def gMake (c : Str) (f : Fn) : G RV := fun rs s => match f (.v (.ref s.hp.length) :: rs) (s.hp ++ [.ins c []]) with
  | .ok (.v .non) hp => .ok (.v (.ref s.hp.length)) ⟨s.env, hp⟩
  | _ => .bad
def mMake (c : Str) (f : Fn) (os : List Opd) : M RV := mN os (gMake c f)
def isIns (c m : Str) (s : S) : Option RV → Bool
  | some (.v (.ref n)) => (match s.hp[n]? with
    | some (.ins d fs) => decide (d = c) && (fs.lookup m).isNone
    | _ => false)
  | _ => false
def mMeth (c m : Str) (f : Fn) (o : Opd) (os : List Opd) : M RV := fun s => (o.run s).bind fun p s1 => match isIns c m s1 (rd s1.env p) with
  | true => ((runL os s1).bind fun ps s2 => match rdL s2.env (p :: ps) with
    | some rs => gCall (noX f) rs s2
    | none => .bad)
  | false => .bad

section
variable (K : PySem.W.Frag) (tabs : List (Addr × Str))
def FoPost (bor : List Addr) (A : Addr → Prop) (φ : List Addr) (H : Hp) (o : Fo) (Q : VK) (E : XK) : Prop :=
  match o with
  | .ok r hp => ∀ φ' H' v, φ <+: φ' → Ext A H (fun a => a ∈ φ' ∨ Tm r v a) H' → Rel K ⟨tabs, []⟩ φ' [] H' ⟨[], hp⟩ → (∀ vs, r ≠ .f vs) → Rr K ⟨tabs, bor⟩ φ' [] [] H' r v → Q v H'
  | .exn c fs hp => ∀ φ' H' d, φ <+: φ' → Ext A H (fun a => a ∈ φ') H' → Rel K ⟨tabs, []⟩ φ' [] H' ⟨[], hp⟩ → Xf K φ' H' fs d → E (.ref (cA K c)) d H'
  | .bad => False
/-- what a def promises: it does as f does -/
def spOf (f : Fn) : Sp := fun vs H Q E => ∃ φ rs hp bor, Rel K ⟨tabs, bor⟩ φ (vs.map some) H ⟨rs.map some, hp⟩ ∧ FoPost K tabs bor (Mi φ (rs.map some) (vs.map some)) φ H (f rs hp) Q E
end
section
variable {K : PySem.W.Frag} {T : Tp} {W : WX} {φ φ' : List Addr} {σ : L2.St} {H H' : Hp} {s s' : S}
theorem FoPost.noX {tabs : List (Addr × Str)} {bor : List Addr} {A : Addr → Prop} {f : Fn} {rs : List RV} {hp : List IO} {Q : VK} {E E' : XK} (h : FoPost K tabs bor A φ H (noX f rs hp) Q E) : FoPost K tabs bor A φ H (f rs hp) Q E' := by
  unfold Py.noX at h
  cases q : f rs hp with
  | bad =>
    rw [q] at h
    exact h
  | exn c fs hp' =>
    rw [q] at h
    exact (show False from h).elim
  | ok r hp' =>
    rw [q] at h
    exact h
theorem spOf.noX {tabs : List (Addr × Str)} {f : Fn} {vs : List V} {Q : VK} {E E' : XK} (h : spOf K tabs (noX f) vs H Q E) : spOf K tabs f vs H Q E' := by
  obtain ⟨φ, rs, hp, bor, h1, h2⟩ := h
  exact ⟨φ, rs, hp, bor, h1, h2.noX⟩
/-- the part that a callee sees -/
def borOf : List RV → List V → List Addr
  | .f _ :: rs, .ref p :: xs => p :: borOf rs xs
  | _ :: rs, _ :: xs => borOf rs xs
  | _, _ => []
theorem bor_mem : ∀ {rs : List RV} {xs : List V} {env : List (Option RV)}, AllR K T φ env σ H rs xs → ∀ b ∈ borOf rs xs, ∃ us ys, H b = some (.lst ys) ∧ (b ∉ φ ∧ ((∃ i, Own env σ i b) ∨ b ∈ T.bor)) ∧ RvL K φ H us ys
  | [], [], _, _, b, hb => by cases hb
  | .f us :: rs, x :: xs, env, h, b, hb => by
    obtain ⟨⟨p, ys, rfl, h1, h2, h3⟩, ht, _⟩ := h
    rcases List.mem_cons.mp (show b ∈ p :: borOf rs xs from hb) with e | hb
    · rw [e]; exact ⟨us, ys, h1, h2, h3⟩
    · exact bor_mem ht b hb
  | .v _ :: rs, x :: xs, _, h, b, hb => bor_mem h.2.1 b (by cases x <;> exact hb)
  | .l _ :: rs, x :: xs, _, h, b, hb => bor_mem h.2.1 b (by cases x <;> exact hb)
  | .z _ :: rs, x :: xs, _, h, b, hb => bor_mem h.2.1 b (by cases x <;> exact hb)
  | [], _ :: _, _, h, _, _ => h.elim
  | _ :: _, [], _, h, _, _ => h.elim
theorem own_arg {rs : List RV} {xs : List V} : ∀ {env : List (Option RV)}, AllR K T φ env σ H rs xs → ∀ i p, Own (rs.map some) (xs.map some) i p → TmL rs xs p ∧ ∃ ys, H p = some (.lst ys) ∧ ¬ Mi φ env σ p ∧ p ∉ T.bor := by
  induction rs generalizing xs with
  | nil =>
    intro env h i p ⟨vs, h1, h2⟩
    cases h1
  | cons r rs ih =>
    intro env h i p ⟨vs, h1, h2⟩
    cases xs with
    | nil => exact h.elim
    | cons x xs =>
    cases i with
    | zero =>
      cases h1
      cases h2
      obtain ⟨q, ys, e, e1, e2, e3, _⟩ := h.1
      cases e
      exact ⟨.inl rfl, ys, e1, e2, e3⟩
    | succ i =>
      obtain ⟨a, b⟩ := ih h.2.1 i p ⟨vs, h1, h2⟩
      exact ⟨.inr a, b⟩
theorem own_inj {rs : List RV} {xs : List V} : ∀ {env : List (Option RV)}, AllR K T φ env σ H rs xs → ∀ i j p, Own (rs.map some) (xs.map some) i p → Own (rs.map some) (xs.map some) j p → i = j := by
  induction rs generalizing xs with
  | nil =>
    intro env h i j p ⟨vs, h1, h2⟩
    cases h1
  | cons r rs ih =>
    intro env h i j p o1 o2
    cases xs with
    | nil => exact h.elim
    | cons x xs =>
    have tm : ∀ {q}, Own ((r :: rs).map some) ((x :: xs).map some) 0 q → Tm r x q := fun {q} ⟨vs, h1, h2⟩ => by
      cases h1
      cases h2
      exact rfl
    cases i with
    | zero =>
      cases j with
      | zero => rfl
      | succ j =>
        obtain ⟨vs, h1, h2⟩ := o2
        exact absurd (own_arg h.2.1 j p ⟨vs, h1, h2⟩).1 (h.2.2 p (tm o1))
    | succ i =>
      cases j with
      | zero =>
        obtain ⟨vs, h1, h2⟩ := o1
        exact absurd (own_arg h.2.1 i p ⟨vs, h1, h2⟩).1 (h.2.2 p (tm o2))
      | succ j =>
        obtain ⟨vs, h1, h2⟩ := o1
        obtain ⟨us, g1, g2⟩ := o2
        rw [ih h.2.1 i j p ⟨vs, h1, h2⟩ ⟨us, g1, g2⟩]
theorem arg_slot : ∀ {rs : List RV} {xs : List V} {env : List (Option RV)}, AllR K T φ env σ H rs xs → ∀ (bor : List Addr), (∀ b ∈ borOf rs xs, b ∈ bor) → ∀ (i : Nat) (r : Option RV), (rs.map some)[i]? = some r → Sl K ⟨T.tabs, bor⟩ φ (rs.map some) (xs.map some) H i r
  | [], _, _, _, _, _, i, r, e => by cases e
  | _ :: _, [], _, h, _, _, _, _, _ => h.elim
  | r0 :: rs, x :: xs, env, h, bor, hb, 0, r, e => by
    cases e
    cases r0 with
    | v y => exact ⟨x, rfl, h.1⟩
    | l vs =>
      obtain ⟨p, ys, rfl, e1, e2, _, e4⟩ := h.1
      exact ⟨p, ys, rfl, e1, fun m => e2 (.inl m), e4⟩
    | f vs =>
      obtain ⟨p, ys, rfl, e1, e2, e4⟩ := h.1
      exact ⟨p, ys, rfl, e1, hb p List.mem_cons_self, e4⟩
    | z vs =>
      obtain ⟨p, ys, rfl, e1, e4⟩ := h.1
      exact ⟨p, ys, rfl, e1, e4⟩
  | r0 :: rs, x :: xs, env, h, bor, hb, i + 1, r, e => by
    have z := arg_slot h.2.1 bor (fun b m => hb b (by
      cases r0 <;> cases x <;> first | exact m | exact List.mem_cons_of_mem _ m)) i r e
    cases r with
    | none => trivial
    | some r =>
      cases r with
      | v y =>
        obtain ⟨v, e1, e2⟩ := z
        exact ⟨v, e1, e2⟩
      | l vs =>
        obtain ⟨p, ys, e1, e2⟩ := z
        exact ⟨p, ys, e1, e2⟩
      | f vs =>
        obtain ⟨p, ys, e1, e2⟩ := z
        exact ⟨p, ys, e1, e2⟩
      | z vs =>
        obtain ⟨p, ys, e1, e2⟩ := z
        exact ⟨p, ys, e1, e2⟩
/-- the state that a callee enters -/
theorem Rel.args {rs : List RV} {xs : List V} (rel : Rel K T φ σ H s) (al : AllR K T φ s.env σ H rs xs) : Rel K ⟨T.tabs, borOf rs xs⟩ φ (xs.map some) H ⟨rs.map some, s.hp⟩ where
  nd := rel.nd
  len := rel.len
  obj := rel.obj
  slot := arg_slot al _ fun _ z => z
  inj := own_inj al
  tab := rel.tab
  bor := fun b hb => by
    obtain ⟨us, ys, h1, ⟨h2, h3⟩, _⟩ := bor_mem al b hb
    refine ⟨fun z => z.lst h1, fun m => ?_⟩
    rcases m with m | ⟨i, o⟩
    · exact h2 m
    · obtain ⟨_, _, _, n1, n2⟩ := own_arg al i b o
      rcases h3 with ⟨j, h3⟩ | h3
      · exact n1 (.inr ⟨j, h3⟩)
      · exact n2 h3
  elen := by simpa using al.length
/-- behind a call, in the caller -/
theorem Rel.after {rs : List RV} {xs : List V} {hp : List IO} {B : Addr → Prop} (rel : Rel K T φ σ H s) (al : AllR K T φ s.env σ H rs xs) (x : Ext (Mi φ (rs.map some) (xs.map some)) H (fun a => a ∈ φ' ∨ B a) H') (pr : φ <+: φ') (rel' : Rel K ⟨T.tabs, []⟩ φ' [] H' ⟨[], hp⟩) :
    Rel K T φ' σ H' ⟨s.env, hp⟩ ∧ (∀ a u, (H a = some u ∧ (∀ ps, u ≠ .tbl ps) ∧ ((∃ i, Own s.env σ i a) ∨ a ∈ T.bor)) → H' a = some u ∧ a ∉ φ' ∧ ¬ B a) := by
  have out : ∀ a, ¬ Fr H a → ((∃ i, Own s.env σ i a) ∨ a ∈ T.bor) → a ∉ φ → ¬ Mi φ (rs.map some) (xs.map some) a := fun a _ ho nf m => by
    rcases m with m | ⟨i, o⟩
    · exact nf m
    · obtain ⟨_, _, _, n1, n2⟩ := own_arg al i a o
      rcases ho with ⟨j, ho⟩ | ho
      · exact n1 (.inr ⟨j, ho⟩)
      · exact n2 ho
  have nphi : ∀ a, ((∃ i, Own s.env σ i a) ∨ a ∈ T.bor) → a ∉ φ := fun a ho m => by
    rcases ho with ⟨i, vs, h1, h2⟩ | ho
    · obtain ⟨p, xs, e1, _, e3, _⟩ := rel.slot i _ h1
      rw [h2] at e1
      cases e1
      exact e3 m
    · exact (rel.bor a ho).2 (.inl m)
  have key : ∀ a u, (H a = some u ∧ (∀ ps, u ≠ .tbl ps) ∧ ((∃ i, Own s.env σ i a) ∨ a ∈ T.bor)) → H' a = some u ∧ a ∉ φ' ∧ ¬ B a := fun a u ⟨h1, h2, h3⟩ => by
    have no := out a (fun z => z.no h1 h2) h3 (nphi a h3)
    have nn : ∀ z, (a ∈ φ' ∨ B a) = z → z → False := fun z e hz => by
      rcases x.new a (e ▸ hz) with w | w
      · exact no w
      · exact w.no h1 h2
    exact ⟨x.keep a u h1 no h2, fun m => nn _ rfl (.inl m), fun m => nn _ rfl (.inr m)⟩
  refine ⟨⟨rel'.nd, rel'.len, rel'.obj, fun i q e => ?_, rel.inj, rel'.tab, fun b hb => ?_, rel.elen⟩, key⟩
  · have z := rel.slot i q e
    cases q with
    | none => trivial
    | some q =>
      cases q with
      | v y =>
        obtain ⟨v, e1, e2⟩ := z
        exact ⟨v, e1, e2.ext pr x⟩
      | l us =>
        obtain ⟨p, ys, e1, e2, e3, e4⟩ := z
        obtain ⟨k1, k2, _⟩ := key p _ ⟨e2, (fun _ z => by cases z), .inl ⟨i, us, e, e1⟩⟩
        exact ⟨p, ys, e1, k1, k2, e4.ext pr x⟩
      | f us =>
        obtain ⟨p, ys, e1, e2, e3, e4⟩ := z
        obtain ⟨k1, k2, _⟩ := key p _ ⟨e2, (fun _ z => by cases z), .inr e3⟩
        exact ⟨p, ys, e1, k1, e3, e4.ext pr x⟩
      | z us =>
        obtain ⟨p, ys, e1, e2, e4⟩ := z
        exact ⟨p, ys, e1, e2.ext x, e4.ext pr x⟩
  · obtain ⟨h1, h2⟩ := rel.bor b hb
    refine ⟨fun z => h1 (x.dom b z), fun m => ?_⟩
    rcases m with m | m
    · rcases x.new b (.inl m) with w | w
      · exact out b h1 (.inr hb) (fun q => h2 (.inl q)) w
      · exact h1 w
    · exact h2 (.inr m)
theorem call_core {f : Fn} {rs : List RV} {xs : List V} {A : Addr → Prop} {Q : VK} (rel : Rel K T φ σ H s) (al : AllR K T φ s.env σ H rs xs) (hA : ∀ p, Mi φ s.env σ p → A p) (hT : ∀ p, TmL rs xs p → A p) (h : Post K T W (Rr K T) Tm A φ σ H (gCall f rs s) Q) : spOf K T.tabs f xs H Q (fun c d H => W c d σ H) := by
  refine ⟨φ, rs, s.hp, borOf rs xs, rel.args al, ?_⟩
  have mA : ∀ a, Mi φ (rs.map some) (xs.map some) a → A a := fun a m => by
    rcases m with m | ⟨i, o⟩
    · exact hA a (.inl m)
    · exact hT a (own_arg al i a o).1
  unfold gCall at h
  cases q : f rs s.hp with
  | bad =>
    rw [q] at h
    exact h
  | exn c fs hp =>
    rw [q] at h
    intro φ' H' d pr x rel' xf
    have x' : Ext (Mi φ (rs.map some) (xs.map some)) H (fun a => a ∈ φ' ∨ False) H' := x.less fun a z => z.elim id fun z => z.elim
    obtain ⟨r2, _⟩ := rel.after al x' pr rel'
    refine h φ' H' d pr (x.weak mA fun a z => ?_) r2 xf
    rcases z with z | z
    · exact .inl z
    · exact .inr (hA a (.inr z))
  | ok r hp =>
    rw [q] at h
    intro φ' H' v pr x rel' nf rr
    obtain ⟨r2, key⟩ := rel.after al x pr rel'
    refine h φ' H' v pr (x.weak mA fun a z => ?_) r2 ?_
    · rcases z with (z | z) | z
      · exact .inl (.inl z)
      · exact .inr (hA a (.inr z))
      · exact .inl (.inr z)
    · cases r with
      | v y => exact rr
      | f vs => exact absurd rfl (nf vs)
      | z vs => exact rr
      | l vs =>
        obtain ⟨p, ys, rfl, e1, e2, e3, e4⟩ := rr
        refine ⟨p, ys, rfl, e1, fun m => ?_, fun m => ?_, e4⟩
        · rcases m with m | ⟨i, us, o1, o2⟩
          · exact e2 (.inl m)
          · obtain ⟨p', zs, g1, g2, _⟩ := rel.slot i _ o1
            rw [o2] at g1
            cases g1
            exact (key p _ ⟨g2, (fun _ z => by cases z), .inl ⟨i, us, o1, o2⟩⟩).2.2 rfl
        · have nf := (rel.bor p m).1
          cases hq : H p with
          | none => exact nf (Fr.of hq)
          | some u =>
            by_cases ht : ∃ ps, u = .tbl ps
            · exact nf fun o e => by
                rw [hq] at e
                cases e
                exact ht
            · exact (key p u ⟨hq, (fun ps e => ht ⟨ps, e⟩), .inr m⟩).2.2 rfl
end
end Py

set_option Elab.async false
set_option linter.all false
set_option maxRecDepth 100000
set_option maxHeartbeats 4000000
/-! P16: the rules of calls. -/
namespace Py
open PySem PySem.Spec PyProof.Rows L2
section
variable {K : PySem.W.Frag} {T : Tp} {W : WX} {φ φ' : List Addr} {σ σ' : L2.St} {H H' : Hp} {s s' : S}
/-- the frame left -/
theorem Rel.frame0 (rel : Rel K T φ σ H s) : Rel K ⟨T.tabs, []⟩ φ [] H ⟨[], s.hp⟩ where
  nd := rel.nd
  len := rel.len
  obj := rel.obj
  slot := fun i r e => by cases e
  inj := fun i j p ⟨_, h, _⟩ => by cases h
  tab := rel.tab
  bor := fun b hb => by cases hb
  elen := rfl
theorem mi0 {a : Addr} (h : Mi φ [] [] a) : a ∈ φ := h.elim id fun ⟨_, _, z, _⟩ => by cases z
theorem pad_get {α : Type} {l : List (Option α)} {k i : Nat} {x : α} : (l ++ List.replicate k none)[i]? = some (some x) ↔ l[i]? = some (some x) := by
  by_cases h : i < l.length
  · rw [List.getElem?_append_left h]
  · have z : l[i]? = none := List.getElem?_eq_none (Nat.le_of_not_lt h)
    rw [List.getElem?_append_right (Nat.le_of_not_lt h), z, List.getElem?_replicate]
    split <;> simp
theorem Rel.pad {env : List (Option RV)} {hp : List IO} (k : Nat) (rel : Rel K T φ σ H ⟨env, hp⟩) : Rel K T φ (σ ++ List.replicate k none) H ⟨env ++ List.replicate k none, hp⟩ ∧ ∀ a, Mi φ (env ++ List.replicate k none) (σ ++ List.replicate k none) a → Mi φ env σ a := by
  have sub : ∀ i a, Own (env ++ List.replicate k none) (σ ++ List.replicate k none) i a → Own env σ i a := fun i a ⟨vs, h1, h2⟩ => ⟨vs, pad_get.mp h1, pad_get.mp h2⟩
  have mi : ∀ a, Mi φ (env ++ List.replicate k none) (σ ++ List.replicate k none) a → Mi φ env σ a := fun a m => m.imp id fun ⟨i, o⟩ => ⟨i, sub i a o⟩
  refine ⟨⟨rel.nd, rel.len, rel.obj, fun i r e => ?_, fun i j p h1 h2 => rel.inj i j p (sub i p h1) (sub j p h2), rel.tab, fun b hb => ⟨(rel.bor b hb).1, fun m => (rel.bor b hb).2 (mi b m)⟩, by
    have := rel.elen
    simp only [List.length_append, List.length_replicate]
    exact congrArg (· + k) this⟩, mi⟩
  cases r with
  | none => trivial
  | some r =>
    have z := rel.slot i _ (pad_get.mp e)
    cases r with
    | v y =>
      obtain ⟨v, z1, z2⟩ := z
      exact ⟨v, pad_get.mpr z1, z2⟩
    | l vs =>
      obtain ⟨p, xs, z1, z2⟩ := z
      exact ⟨p, xs, pad_get.mpr z1, z2⟩
    | f vs =>
      obtain ⟨p, xs, z1, z2⟩ := z
      exact ⟨p, xs, pad_get.mpr z1, z2⟩
    | z vs =>
      obtain ⟨p, xs, z1, z2⟩ := z
      exact ⟨p, xs, pad_get.mpr z1, z2⟩
theorem Rr.frame0 {r : RV} {v : V} {env : List (Option RV)} (nf : ∀ vs, r ≠ .f vs) (h : Rr K T φ env σ H r v) : Rr K T φ [] [] H r v := by
  cases r with
  | v y => exact h
  | z vs => exact h
  | f vs => exact absurd rfl (nf vs)
  | l vs =>
    obtain ⟨p, xs, rfl, e1, e2, e3⟩ := h
    exact ⟨p, xs, rfl, e1, fun m => e2 (.inl (mi0 m)), e3⟩
theorem fn_enter {tabs : List (Addr × Str)} {n np : Nat} {m : M Fl} {vs : List V} {N : List Str} {Q : VK} {E : XK} (hn : N.length = n) (h : spOf K tabs (mkFn n np m) vs H Q E) : vs.length = np ∧ ∃ bor, tS K ⟨tabs, bor⟩ (fun c d _ H => E c d H) m { nx := fun _ H' => Q .non H', rt := Q } (L2.start N vs) H := by
  obtain ⟨φ, rs, hp, bor, rel, fo⟩ := h
  have el : rs.length = vs.length := by simpa using rel.elen
  unfold mkFn at fo
  split at fo
  · rename_i hc
    simp only [Bool.and_eq_true, decide_eq_true_eq] at hc
    obtain ⟨r2, mi⟩ := rel.pad (n - np)
    have es : L2.start N vs = vs.map some ++ List.replicate (n - np) none := by
      unfold L2.start
      rw [hn, ← el, hc.1]
    refine ⟨by rw [← el]; exact hc.1, bor, φ, _, by rw [es]; exact r2, ?_⟩
    rw [es]
    cases q : m ⟨rs.map some ++ List.replicate (n - np) none, hp⟩ with
    | bad =>
      rw [q] at fo
      exact fo
    | exn c fs s' =>
      rw [q] at fo
      exact fun φ' H' σ' d pr x rel' xf => fo φ' H' d pr (x.weak mi fun a z => .inl (.inl z)) rel'.frame0 xf
    | ok f s' =>
      rw [q] at fo
      cases f with
      | bk => exact (show False from fo).elim
      | ct => exact (show False from fo).elim
      | nx => exact fun φ' H' σ' pr x rel' => fo φ' H' .non pr (x.weak mi fun a z => .inl (z.elim .inl fun z => (show False from z).elim)) rel'.frame0 (fun _ z => by cases z) Rv.non
      | rt r =>
        cases r with
        | f vs => exact (show False from fo).elim
        | v y => exact fun φ' H' σ' v pr x rel' rr => fo φ' H' v pr (x.weak mi fun a z => .inl (z.imp .inl id)) rel'.frame0 (fun _ z => by cases z) (rr.frame0 fun _ z => by cases z)
        | l y => exact fun φ' H' σ' v pr x rel' rr => fo φ' H' v pr (x.weak mi fun a z => .inl (z.imp .inl id)) rel'.frame0 (fun _ z => by cases z) (rr.frame0 fun _ z => by cases z)
        | z y => exact fun φ' H' σ' v pr x rel' rr => fo φ' H' v pr (x.weak mi fun a z => .inl (z.imp .inl id)) rel'.frame0 (fun _ z => by cases z) (rr.frame0 fun _ z => by cases z)
  · exact (show False from fo).elim
/-- a def of the text does as its plain function does -/
theorem fn_ok {P : Program} {w : World} {mg : Str → Option Value} {base : Heap} {k n np : Nat} {f : Addr} {name qual : Str} {params : Arguments} {body : List Stmt} {scope : Scope} {dV kV doc pm cdv ct oc : Value} {an od : Option Addr}
    {osl : Array (Option Value)} {N ps : List Str} {tabs : List (Addr × Str)} {m : M Fl} (lk : K.lookup f = some ⟨oc, od, .func (PySem.W.fnOf name qual params body scope dV kV doc pm an cdv ct), osl⟩) (hcd : PySem.W.codeIn K cdv qual = true) (fs : FnScope N ps scope) (hn : N.length = n) (hp : ps.length = np)
    (hb : ∀ (bor : List Addr) (A : Around) (outer : List Env) (s : Shared) (H : Hp) (E : XK), Room k (A.deeper (envOfC qual scope s.heap.objs.size f cdv)) → SB (cxOf (L2.CX P w) P w K mg base N qual scope f cdv A outer s H E) ⟨tabs, bor⟩ (fun c d _ H => E c d H) body m) :
    FnOk P w K mg base (L2.CX P w) (k + 1) f (PySem.W.fnOf name qual params body scope dV kV doc pm an cdv ct) ps (spOf K tabs (mkFn n np m)) :=
  fn_of lk hcd fs (fun vs H Q E h => (fn_enter hn h).1.trans hp.symm) fun A outer s H vs Q E hr h => by
    obtain ⟨_, bor, ht⟩ := fn_enter hn h
    exact ⟨_, hb bor A outer s H E hr, ht⟩
theorem cx_takes {P : Program} {w : World} {mg : Str → Option Value} {base : Heap} {N : List Str} {qual : Str} {scope : Scope} {f : Addr} {cd : Value} {A : Around} {outer : List Env} {s : Shared} {E : XK} : Takes (cxOf (L2.CX P w) P w K mg base N qual scope f cd A outer s H E) (fun c d _ H => E c d H) := takes_of rfl rfl rfl rfl
theorem cx_passes {P : Program} {w : World} {mg : Str → Option Value} {base : Heap} {N : List Str} {qual : Str} {scope : Scope} {f : Addr} {cd : Value} {A : Around} {outer : List Env} {s : Shared} {E : XK} : PassesOwn (model P w) (A.deeper (envOfC qual scope s.heap.objs.size f cd)) (envOfC qual scope s.heap.objs.size f cd) (cxOf (L2.CX P w) P w K mg base N qual scope f cd A outer s H E).xe := passes_of (X := cxOf (L2.CX P w) P w K mg base N qual scope f cd A outer s H E) rfl
theorem lookup_none : ∀ {fs : List (Str × IV)} {ys : List (Str × V)} {m : Str}, fs.map (·.1) = ys.map (·.1) → fs.lookup m = none → ys.lookup m = none
  | [], [], _, _, _ => rfl
  | (g, x) :: fs, (g', y) :: ys, m, e, h => by
    simp only [List.map_cons, List.cons.injEq] at e
    obtain ⟨rfl, e⟩ := e
    rw [List.lookup_cons] at h ⊢
    cases q : m == g with
    | true =>
      rw [q] at h
      cases h
    | false =>
      rw [q] at h
      exact lookup_none e h
  | [], _ :: _, _, e, _ => by cases e
  | _ :: _, [], _, e, _ => by cases e
theorem Rr.grow {x : Addr} {env : List (Option RV)} {r : RV} {v : V} (hx : H x = none) (k : ∀ a o, H a = some o → H' a = some o) (h : Rr K T φ env σ H r v) : Rr K T (φ ++ [x]) env σ H' r v := by
  have e : Ext (fun _ => False) H (fun _ => False) H' := ⟨fun _ z => z.elim, fun a o h _ _ => k a o h, fun a z o e => z o (k a o e), fun a o h _ => k a o h⟩
  cases r with
  | v y => exact RvL.ext (show Rv K φ H y v from h) pre_snoc e
  | z vs =>
    obtain ⟨p, xs, rfl, e1, e3⟩ := h
    exact ⟨p, xs, rfl, e1.ext e, e3.ext pre_snoc e⟩
  | l vs =>
    obtain ⟨p, xs, rfl, e1, e2, e3, e4⟩ := h
    refine ⟨p, xs, rfl, k _ _ e1, fun m => ?_, e3, e4.ext pre_snoc e⟩
    rcases mi_snoc m with m | m
    · exact e2 m
    · rw [m, hx] at e1
      cases e1
  | f vs =>
    obtain ⟨p, xs, rfl, e1, ⟨e2, e3⟩, e4⟩ := h
    refine ⟨p, xs, rfl, k _ _ e1, ⟨fun m => ?_, e3⟩, e4.ext pre_snoc e⟩
    rcases List.mem_append.mp m with m | m
    · exact e2 m
    · rw [List.mem_singleton.mp m, hx] at e1
      cases e1
theorem AllR.grow {x : Addr} {env : List (Option RV)} (hx : H x = none) (k : ∀ a o, H a = some o → H' a = some o) : ∀ {rs : List RV} {xs : List V}, AllR K T φ env σ H rs xs → AllR K T (φ ++ [x]) env σ H' rs xs
  | [], [], _ => trivial
  | _ :: _, _ :: _, h => ⟨h.1.grow hx k, AllR.grow hx k h.2.1, h.2.2⟩
  | [], _ :: _, h => h.elim
  | _ :: _, [], h => h.elim
end
section
variable {X : Cx} {T : Tp} {W : WX} {a e o : Expr} {es : List Expr} {oa : Opd} {os : List Opd} {k : Nat} {f C : Addr} {fd : FuncData} {ps : List Str} {fn : Fn} {x m : Str} {p pos apos : Pos}
theorem pnd_now {K : PySem.W.Frag} {φ : List Addr} {σ : L2.St} {H : Hp} {s : S} {pn : Pn} {y : V} {r : RV} (rel : Rel K T φ σ H s) (h : Pnd K T φ s.env σ H pn y) (e : rd s.env pn = some r) : Rr K T φ s.env σ H r y := by
  cases pn with
  | inl i =>
    obtain ⟨z, h1, h2, _⟩ := rdS_ok rel (show rdS s.env i = some r from e)
    rw [show σ[i]? = some (some y) from h] at h1
    cases h1
    exact h2
  | inr q =>
    cases e
    exact h.2
abbrev FOk (X : Cx) (T : Tp) (k : Nat) (f : Addr) (fd : FuncData) (ps : List Str) (fn : Fn) : Prop := FnOk X.prog X.w X.K X.mg X.base (L2.CX X.prog X.w) k f fd ps (spOf X.K T.tabs fn)
theorem se_call (F : FOk X T k f fd ps fn) (hr : Room k X.A) (hg : Gl X x) (hm : X.mg x = some (.ref f)) (hk : PySem.W.keepIn X.K (.ref f) = true) (hb : Binds X.K fd ps []) (tk : Takes X W) (ha : SA X T W (e :: es) os)
    (hdb : (x == ("__debug__" : Str)) = false := by decide) (he : starEach (e :: es) X.env = (false, eval e X.env) :: starEach es X.env := by rfl) (hpl : (backTo pos (starEach es X.env)).any (·.1) = false := by rfl) : SE X T W (.Call (.Name x p) (e :: es) [] pos) (mCall fn os) :=
  PE.imp (pe_callS F hr hg hm hk hb (fun σ => passAt tk σ) ha hdb he hpl) fun σ H Q ⟨φ, s, rel, hp⟩ =>
    mN_step _ rel hp fun xs H1 φ1 s1 rs A l1 l2 rel1 al hA hT hp => call_core rel1 al hA hT hp
theorem pass0 : Passes (L2.CX X.prog X.w) X (fun _ _ _ => False) := passes_call (W := fun _ _ _ _ => False) LamX.takes0 fun _ _ _ _ h => h
theorem se_meth {c : Str} {pl : Sem Bool} (c1 : Cls X.K (cA X.K c)) (hm : Meth X.K (cA X.K c) m f) (F : FOk X T k f fd ps fn) (hr : Room k X.A) (hb : Binds X.K fd ps []) (he : SO X T W o oa) (ha : SA X T W (e :: es) os)
    (hst : starEach (e :: es) X.env = (false, eval e X.env) :: starEach es X.env := by rfl) (hpl : (backTo pos (starEach es X.env)).any (·.1) = false := by rfl)
    (ht : eval (.Call (.Attribute o m apos) (e :: es) [] pos) X.env = (do
      let ov ← eval o X.env
      standAt apos.atName
      let (f, first) ← holding [ov] (getMethod ov m pl)
      callWith pos f first (backTo pos (starEach (e :: es) X.env)) (backToKw pos (keywordEach [] X.env))) := by rfl) : SE X T W (.Call (.Attribute o m apos) (e :: es) [] pos) (mMeth c m fn oa os) :=
  PE.imp (pe_meth he c1 hm F hr hb (dvs := []) .nil pass0 ha hst hpl ht) fun σ H Q ⟨φ, s, rel, hp⟩ => by
    refine opd_step rel hp (fun _ z => z) _ fun x H1 φ1 s1 pa pr ex rel1 pn1 hp => ?_
    cases qi : isIns c m s1 (rd s1.env pa) with
    | false =>
      rw [qi] at hp
      exact (show False from hp).elim
    | true =>
      rw [qi] at hp
      cases qr : rd s1.env pa with
      | none =>
        rw [qr] at qi
        cases qi
      | some r =>
        rw [qr] at qi
        have rr := pnd_now rel1 pn1 qr
        unfold isIns at qi
        split at qi
        · rename_i n e0
          cases e0
          split at qi
          · rename_i d fs hn
            simp only [Bool.and_eq_true, decide_eq_true_eq, Option.isNone_iff_eq_none] at qi
            obtain ⟨rfl, hm0⟩ := qi
            obtain ⟨q, rfl, hq⟩ := Rv.ref_inv rr
            cases rel1.obj n q _ hq hn with
            | ins b1 k1 b2 =>
              refine ⟨q, _, _, rfl, b1, lookup_none k1 hm0, ?_⟩
              refine args_step rel1 hp (fun a z => .inr (.inl z)) _ fun xs H2 φ2 s2 ps hlen pr2 ex2 rel2 pn2 hp2 => ?_
              cases er : rdL s2.env (pa :: ps) with
              | none =>
                rw [er] at hp2
                exact (show False from hp2).elim
              | some rs =>
                rw [er] at hp2
                have pn1' := pn1.ext pr2 ex2
                obtain ⟨⟨a1, a2⟩, _⟩ := rdL_ok rel2 (ps := pa :: ps) (xs := .ref q :: xs) ⟨pn1', pn2, fun a t t2 => by
                  obtain ⟨h1, h2⟩ := TmP.there pn1 t
                  rcases ex2.new a (.inr t2) with z | z
                  · exact h2 z
                  · exact h1 z⟩ er
                rw [List.append_nil]
                refine (call_core rel2 a1 (fun a z => .inr (.inl z)) (fun a z => ?_) hp2).noX
                rcases a2 a z with z | z
                · exact .inl (.inr (.inr z))
                · exact .inr (.inr z)
          · cases qi
        · cases qi
theorem se_make {c : Str} (M0 : Mk X.K (cA X.K c) f) (F : FOk X T k f fd ps fn) (hr : Room (k + 1) X.A) (hg : Gl X x) (hm : X.mg x = some (.ref (cA X.K c))) (hb : Binds X.K fd ps []) (ha : SA X T W (e :: es) os)
    (hdb : (x == ("__debug__" : Str)) = false := by decide) (he : starEach (e :: es) X.env = (false, eval e X.env) :: starEach es X.env := by rfl) (hpl : (backTo pos (starEach es X.env)).any (·.1) = false := by rfl) : SE X T W (.Call (.Name x p) (e :: es) [] pos) (mMake c fn os) :=
  PE.imp (pe_make M0 F hr hg hm hb (dvs := []) .nil pass0 ha hdb he hpl) fun σ H Q ⟨φ, s, rel, hp⟩ =>
    mN_step _ rel hp fun xs H1 φ1 s1 rs A l1 l2 rel1 al hA hT hp y dx hy hdx hne => by
      rw [List.append_nil]
      have g1 : ∀ a o, H1 a = some o → upd (upd H1 dx (.own y)) y (.ins (cA X.K c) dx []) a = some o := fun a o e => by
        rw [upd_ne (ne_of_none e hy), upd_ne (ne_of_none e hdx)]
        exact e
      have hy2 : upd H1 dx (.own y) y = none := by rw [upd_ne (Ne.symm hne)]; exact hy
      obtain ⟨f1, f2⟩ := rel1.fresh hy
      have rel2 := (rel1.alloc (o := .own y) hdx).alloc (o := .ins (cA X.K c) dx []) hy2
      have rel3 := rel2.boxO (o := .ins c []) (.ins (fs := []) (ys := []) upd_same rfl .nil) f1 f2
      have al2 : AllR X.K T (φ1 ++ [y]) s1.env σ _ (.v (.ref s1.hp.length) :: rs) (.ref y :: xs) := ⟨.ref (by rw [← rel1.len]; simp) .nil, al.grow hy g1, fun a t => (show False from t).elim⟩
      have x2 : Ext A H1 (fun a => A a ∨ a = y) (upd (upd H1 dx (.own y)) y (.ins (cA X.K c) dx [])) := ((Ext.alloc (A := A) (o := .own y) hdx).less fun a z => .inl z).trans (Ext.alloc hy2)
      refine (call_core (f := noX fn) (A := fun a => A a ∨ a = y) (W := W) rel3 al2 (fun a z => ?_) (fun a z => ?_) ?_).noX
      · exact (mi_snoc z).imp (hA a) id
      · rcases z with z | z
        · exact (show False from z).elim
        · exact .inl (hT a z)
      · unfold gMake at hp
        unfold gCall noX
        cases q : fn (.v (.ref s1.hp.length) :: rs) (s1.hp ++ [.ins c []]) with
        | bad =>
          simp only [q] at hp
          exact hp
        | exn c0 fs hp' =>
          simp only [q] at hp
          exact hp
        | ok r hp' =>
          simp only [q] at hp
          intro φ' H' v pr ex rel' rr
          split at hp
          · rename_i hp2 e0
            cases e0
            refine ⟨Rv.non_inv rr, hp φ' H' (.ref y) (pre_snoc.trans pr) ((x2.trans ex).less fun a z => ?_) rel' (.ref (pre_get pr (by rw [← rel1.len]; simp)) .nil)⟩
            rcases z with z | z
            · exact .inl z
            · exact (show False from z).elim
          · exact (show False from hp).elim
end
end Py

set_option Elab.async false
set_option linter.all false
set_option maxRecDepth 100000
set_option maxHeartbeats 4000000
/-! P17: raise of an own exception without fields; globals. -/
namespace Py
open PySem PySem.Spec PyProof.Rows L2
/-- a new exception of class c, without fields, raised -/
def mRaise (c : Str) : M Fl := fun s => .exn c [] s

section
variable {X : Cx} {σ : L2.St}
/-- an exception that has no dict leaves the tracked part -/
theorem bare_end {pins : List (Addr × Obj)} {H1 H2 : Hp} {h0 h1 h2 : Heap} {ga gb : Array GenState} {da db : Drawn} {ta tb : Nat} {oa ob : OsState} {a C : Addr} (I1 : Inv X pins σ H1 ⟨h0, ga, da, ta, oa⟩) (new : h0.objs.size ≤ a) (kp : ∀ b o, h0.get? b = some o → h1.get? b = some o)
    (un : Un (frs X.stack) [] (upd H1 a (exo a C none)) H2 h1 h2) (ok2 : HOk X.prog X.w H2 h2) (eo : ob = oa) (bare : AllBare gb) (ea : H2 a = some (exo a C none)) :
    ∃ (t0 : Addr) (G : Heap), Inv X pins σ (del H2 a) ⟨G, gb, db, tb, ob⟩ ∧ (∀ b o, G.get? b = some o → h2.get? b = some o) ∧ G.get? a = none ∧ h2.get? a = some ({ cls := .ref C, dict := none, data := .fields #[.ref t0, .none, .none, .none, .bool false, .none] } : Obj) := by
  obtain ⟨t0, at2⟩ := exo_at ok2 ea
  have free : H1 a = none := I1.hok.fresh new
  obtain ⟨G, same, gone⟩ := restrict h2 fun b => decide (b ≠ a)
  have eqG : ∀ b, b ≠ a → G.get? b = h2.get? b := fun b q => same b (decide_eq_true q)
  have noG : G.get? a = none := gone a (by simp)
  have apart : ∀ {b : Addr} {o : Obj}, h0.get? b = some o → b ≠ a := fun {b o} z => Nat.ne_of_lt (Nat.lt_of_lt_of_le (Heap.lt_size z) new)
  have emp : ∀ {b : Addr}, b ≠ a → H1 b = none → upd H1 a (exo a C none) b = none := fun {b} q z => (upd_ne q).trans z
  have had : ∀ {b : Addr} {u : HO}, H1 b = some u → upd H1 a (exo a C none) b = some u := fun {b u} z => (upd_ne (ne_of_none z free)).trans z
  have U : Un (frs X.stack) [] H1 (del H2 a) h0 G :=
    ⟨fun b o z n f e => (eqG b (apart z)).trans (un.keep b o (kp b o z) (emp (apart z) n) f e), fun b o z n f e => by
      obtain ⟨sl, w⟩ := un.slot b o (kp b o z) (emp (apart z) n) f e
      exact ⟨sl, (eqG b (apart z)).trans w⟩, fun b o z n e => (del_ne (apart z)).trans (un.free b o (kp b o z) (emp (apart z) n) e), fun b o z e => by
      obtain ⟨o', w⟩ := un.there b o (kp b o z) e
      exact ⟨o', (eqG b (apart z)).trans w⟩, fun b xs z => (del_ne (ne_of_none z free)).trans (un.tups b xs (had z)), fun b o v z => (del_ne (ne_of_none z free)).trans (un.frzs b o v (had z)), fun b ps z => by
      obtain ⟨q, w⟩ := un.tbls b ps (had z)
      exact ⟨q, (del_ne (ne_of_none z free)).trans w⟩⟩
  have okG : HOk X.prog X.w (del H2 a) G := fun b o z => by
    have nb : b ≠ a := fun e => by
      rw [e, del_same] at z
      cases z
    rw [del_ne nb] at z
    have noOwn : ∀ {c : Addr}, H2 c = some (.own b) → c ≠ a := fun {c} w => at_ne ea w exo_own
    exact (ok2 b o z).stay (fun c v hc w => (eqG c (hc.elim (fun e => by rw [e]; exact nb) fun e => noOwn e)).trans w) (fun c w => (del_ne (noOwn w)).trans w) fun c xs w => (del_ne (at_ne ea w exo_tup)).trans w
  refine ⟨t0, G, I1.call' (ch := []) eo U okG bare (fun b z => absurd z (by simp)), fun b o z => ?_, noG, at2⟩
  by_cases nb : b = a
  · rw [nb, noG] at z
    cases z
  · exact (eqG b nb).symm.trans z
/-- what the own __init__ of an exception class without fields promises -/
def spVE (K : PySem.W.Frag) : Sp := fun vs H Q E => ∃ a C : Addr, vs = [.ref a] ∧ OexC K C ∧ H a = some (exo a C none) ∧ Q .non H
theorem pmk_bare {c : Str} {C f0 : Addr} {k : Nat} {fd : FuncData} {ps : List Str} {p pos : Pos} (T0 : OexC X.K C) (ini : PySem.W.findIn X.K (.ref C) "__init__" = some (some (.ref f0))) (ty : PySem.W.typeIn X.K (.ref f0) = some (.type "function"))
    (Fi : FnOk X.prog X.w X.K X.mg X.base (L2.CX X.prog X.w) k f0 fd ps (spVE X.K)) (hr : Room (k + 1) X.A) (hb : Binds X.K fd ps []) (hg : Gl X c) (hm : X.mg c = some (.ref C)) (hdb : (c == ("__debug__" : Str)) = false := by decide) :
    PMk X (.Call (.Name c p) [] [] pos) fun σ H Q => Q (.ref C) none H := fun pins s σ H Q I h => by
  obtain ⟨nm, q, N, bs, bm, sn, sub, ab, col, dd, k0, k1, k2, k3, k5, look, mro⟩ := T0.cls
  refine wpAny_Call_Name_kw (ld_glob I hg hm (PySem.W.callWith_K0 I.kIn T0.kC ?_) hdb)
  obtain ⟨hp, g, dr, tk, os⟩ := s
  have le : hp.objs.size ≤ hp.objs.size + 1 := Nat.le_succ _
  have fresh : H (hp.objs.size + 1) = none := I.hok.fresh le
  have kp : ∀ b o, hp.get? b = some o → ((hp.push (PySem.W.kdv_tup [])).push (PySem.HandSPX.excO C hp.objs.size)).get? b = some o := fun b o e => Heap.get?_push_of_some _ (Heap.get?_push_of_some _ e)
  have put : ((hp.push (PySem.W.kdv_tup [])).push (PySem.HandSPX.excO C hp.objs.size)).get? (hp.objs.size + 1) = some (PySem.HandSPX.excO C hp.objs.size) := by heap_get
  have J : Inv X pins σ (upd H (hp.objs.size + 1) (exo (hp.objs.size + 1) C none)) ⟨(hp.push (PySem.W.kdv_tup [])).push (PySem.HandSPX.excO C hp.objs.size), g, dr, tk, os⟩ := I.laid (t' := tk) kp le (exo_ok put)
  have promise : spVE X.K [V.ref (hp.objs.size + 1)] (upd H (hp.objs.size + 1) (exo (hp.objs.size + 1) C none)) (fun v H2 => v = .non ∧ H2 = upd H (hp.objs.size + 1) (exo (hp.objs.size + 1) C none)) (fun _ _ _ => False) := ⟨_, C, rfl, T0, upd_same, rfl, rfl⟩
  have lps : ([] : List Value).length + 1 = ps.length := (Fi.len _ _ _ _ promise)
  refine wpAny_call (PySem.HandSPX.call_own F.excBase_ValueError (fun Y => PySem.HandSPX.refsVE_contains Y bm mro) (I.kIn _ _ look) (PySem.W.looks_findIn I.kIn ini) (fun self => PySem.W.bind_fn I.kIn self ty) (rest := []) (Nat.zero_le _)
    (codeAny_mono (Fi.run _ X.stack _ _ ⟨[Value.ref (hp.objs.size + 1)], []⟩ [Value.ref (hp.objs.size + 1)] [V.ref (hp.objs.size + 1)] _ (fun _ _ _ => False) (hr.make C [] []) (J.env0.make C [] []) (hb _ [Value.ref (hp.objs.size + 1)] J.kIn lps) (.cons rfl .nil) promise) fun r s' hq => ?_))
  cases r with
  | error er => exact pass0 pins σ _ _ er s' J hq
  | ok fl =>
    cases fl with
    | ret u =>
      obtain ⟨v, H2, o2, bare2, un2, ok2, rv, ev, eH⟩ := hq
      subst ev
      obtain ⟨h2, g2, d2, t2, os2⟩ := s'
      obtain ⟨t0, G, I3, up, noG, at2⟩ := bare_end (db := d2) (tb := t2) I le kp un2 ok2 o2 bare2 (by rw [eH]; exact upd_same)
      have back : del H2 (hp.objs.size + 1) = H := by
        funext b
        by_cases hb : b = hp.objs.size + 1
        · rw [hb, del_same, fresh]
        · rw [del_ne hb, eH, upd_ne hb]
      rw [back] at I3
      exact ⟨rv, _, _, _, ⟨G, g2, d2, t2, os2⟩, H, .ref C, none, rfl, I3, up, noG, at2, ⟨rfl, rfl⟩, rfl, rfl, fresh, rfl, bare2, raises_own T0.exC T0.tyC, h⟩
    | next => exact False.elim hq
    | brk => exact False.elim hq
    | cont => exact False.elim hq

theorem ss_raise {T : Tp} {W : WX} {e : Expr} {c : Str} {pos : Pos} (hc : X.calm = true) (tk : Takes X W) (he : PMk X e fun _ H Q => Q (.ref (cA X.K c)) none H) : SS X T W (.Raise (some e) none pos) (mRaise c) :=
  PS.imp (ps_raise hc tk he) fun D σ H ⟨φ, s, rel, h⟩ => h φ H σ none (List.prefix_refl _) Ext.refl rel rfl
/-- a global's value -/
theorem se_gl {T : Tp} {W : WX} {x : Str} {y : IV} {v : V} {pos : Pos} (hg : Gl X x) (h : ∃ u, X.mg x = some u ∧ RelV v u) (r : ∀ φ H, Rv X.K φ H y v) (hd : (x == ("__debug__" : Str)) = false := by decide) : SE X T W (.Name x pos) (mC y) := by
  obtain ⟨u, hm, rel⟩ := h
  exact se_const (pe_glob hg hm rel hd) r
end
/-- the __init__ that only calls ValueError.__init__(self) -/
theorem ve_ok {P : Program} {w : World} {K : PySem.W.Frag} {mg : Str → Option Value} {base : Heap} {k : Nat} {f : Addr} {name qual : Str} {params : Arguments} {body : List Stmt} {scope : Scope} {dV kV doc pm cdv ct oc : Value} {an od : Option Addr}
    {osl : Array (Option Value)} {N : List Str} (lk : K.lookup f = some ⟨oc, od, .func (PySem.W.fnOf name qual params body scope dV kV doc pm an cdv ct), osl⟩) (hcd : PySem.W.codeIn K cdv qual = true) (fs : FnScope N ["self"] scope)
    (hb : ∀ (A : Around) (outer : List Env) (s : Shared) (H : Hp) (E : XK), PSs (cxOf (L2.CX P w) P w K mg base N qual scope f cdv A outer s H E) body (tDrop (tVeI K (tCons (tVar 0) tNil)))) :
    FnOk P w K mg base (L2.CX P w) (k + 1) f (PySem.W.fnOf name qual params body scope dV kV doc pm an cdv ct) ["self"] (spVE K) :=
  fn_of lk hcd fs (fun vs H Q E ⟨a, C, e, _⟩ => by rw [e]; rfl) fun A outer s H vs Q E hr ⟨a, C, e, T0, ha, q⟩ => by
    subst e
    exact ⟨_, hb A outer s H E, .ref a, rfl, a, C, [], rfl, Nat.zero_le _, T0, ha, q⟩
end Py

set_option Elab.async false
set_option linter.all false
set_option maxRecDepth 100000
set_option maxHeartbeats 4000000
/-! P18: a def with its binding as one bundle; the calls over bundles. -/
namespace Py
open PySem PySem.Spec PyProof.Rows L2
def mSlB (oa ob oc : Opd) : M RV := fun s => (oa.run s).bind fun pa s1 => (ob.run s1).bind fun pb s2 => match rd s2.env pb with
  | some (.v (.int i)) => (oc.run s2).bind fun pc s3 => (match rd s3.env pa, rd s3.env pc with
    | some r, some (.v (.int j)) => fSl r (some i) (some j) s3
    | _, _ => .bad)
  | _ => .bad
structure Df (P : Program) (w : World) (K : PySem.W.Frag) (mg : Str → Option Value) (base : Heap) (tabs : List (Addr × Str)) (k : Nat) (f : Addr) (ps : List Str) (fn : Fn) : Prop where
  ex : ∃ fd, FnOk P w K mg base (L2.CX P w) k f fd ps (spOf K tabs fn) ∧ Binds K fd ps []
  kp : PySem.W.keepIn K (.ref f) = true
theorem Df.mono {P : Program} {w : World} {K : PySem.W.Frag} {mg : Str → Option Value} {base : Heap} {tabs : List (Addr × Str)} {k j : Nat} {f : Addr} {ps : List Str} {fn : Fn} (d : Df P w K mg base tabs j f ps fn) (h : j ≤ k) : Df P w K mg base tabs k f ps fn := by
  obtain ⟨fd, h1, h2⟩ := d.ex
  exact ⟨⟨fd, h1.mono h, h2⟩, d.kp⟩
/-- the context of a def's body -/
abbrev Xc (P : Program) (w : World) (K : PySem.W.Frag) (mg : Str → Option Value) (base : Heap) (N : List Str) (qual : Str) (sc : Scope) (f : Addr) (cdv : Value) (A : Around) (outer : List Env) (s : Shared) (H : Hp) (E : XK) : Cx := cxOf (L2.CX P w) P w K mg base N qual sc f cdv A outer s H E
abbrev We (E : XK) : WX := fun c d _ H => E c d H
theorem df_of {P : Program} {w : World} {K : PySem.W.Frag} {mg : Str → Option Value} {base : Heap} {k n np : Nat} {f : Addr} {name qual : Str} {params : Arguments} {body : List Stmt} {scope : Scope} {N ps : List Str} {tabs : List (Addr × Str)} {m : M Fl}
    (F : ∃ fd, FunD K name qual params body scope [] [] f fd) (fs : FnScope N ps scope) (hn : N.length = n) (hp : ps.length = np)
    (hbi : ∀ (kV doc pm : Value) (an : Option Addr) (cdv ct : Value) (us : List Value), us.length = ps.length → bindArgs (PySem.W.fnOf name qual params body scope .none kV doc pm an cdv ct) ⟨us, []⟩ = pure (ps.zip us))
    (hb : ∀ (cdv : Value) (bor : List Addr) (A : Around) (outer : List Env) (s : Shared) (H : Hp) (E : XK), Room k (A.deeper (envOfC qual scope s.heap.objs.size f cdv)) → SB (Xc P w K mg base N qual scope f cdv A outer s H E) ⟨tabs, bor⟩ (We E) body m) :
    Df P w K mg base tabs (k + 1) f ps (mkFn n np m) := by
  obtain ⟨fd, F⟩ := F
  have B := F.bindsN hbi
  have kp := F.kp
  obtain ⟨oc, od, dV, kV, doc, pm, an, cdv, ct, osl, rfl, lk, hcd, _, _⟩ := F.ex
  exact ⟨⟨_, fn_ok lk hcd fs hn hp (hb cdv), B⟩, kp⟩
theorem df_bad {P : Program} {w : World} {K : PySem.W.Frag} {mg : Str → Option Value} {base : Heap} {k : Nat} {f : Addr} {name qual : Str} {params : Arguments} {body : List Stmt} {scope : Scope} {ps : List Str} {tabs : List (Addr × Str)}
    (F : ∃ fd, FunD K name qual params body scope [] [] f fd)
    (hbi : ∀ (kV doc pm : Value) (an : Option Addr) (cdv ct : Value) (us : List Value), us.length = ps.length → bindArgs (PySem.W.fnOf name qual params body scope .none kV doc pm an cdv ct) ⟨us, []⟩ = pure (ps.zip us)) : Df P w K mg base tabs k f ps fun _ _ => .bad := by
  obtain ⟨fd, F⟩ := F
  exact ⟨⟨fd, ⟨fun vs H Q E ⟨_, _, _, _, _, h⟩ => (show False from h).elim, fun A outer s H args us vs Q E _ _ _ _ ⟨_, _, _, _, _, h⟩ => (show False from h).elim⟩, F.bindsN hbi⟩, F.kp⟩
section
variable {X : Cx} {T : Tp} {W : WX} {a e o : Expr} {es : List Expr} {oa : Opd} {os : List Opd} {k : Nat} {f : Addr} {ps : List Str} {fn : Fn} {x m : Str} {p pos apos : Pos}
abbrev DfX (X : Cx) (T : Tp) (k : Nat) (f : Addr) (ps : List Str) (fn : Fn) : Prop := Df X.prog X.w X.K X.mg X.base T.tabs k f ps fn
theorem sd_call (D : DfX X T k f ps fn) (hr : Room k X.A) (hg : Gl X x) (hm : X.mg x = some (.ref f)) (tk : Takes X W) (ha : SA X T W (e :: es) os)
    (hdb : (x == ("__debug__" : Str)) = false := by decide) (he : starEach (e :: es) X.env = (false, eval e X.env) :: starEach es X.env := by rfl) (hpl : (backTo pos (starEach es X.env)).any (·.1) = false := by rfl) : SE X T W (.Call (.Name x p) (e :: es) [] pos) (mCall fn os) := by
  obtain ⟨fd, F, B⟩ := D.ex
  exact se_call F hr hg hm D.kp B tk ha hdb he hpl
theorem sd_meth {c : Str} {pl : Sem Bool} (c1 : Cls X.K (cA X.K c)) (hm : Meth X.K (cA X.K c) m f) (D : DfX X T k f ps fn) (hr : Room k X.A) (he : SO X T W o oa) (ha : SA X T W (e :: es) os)
    (hst : starEach (e :: es) X.env = (false, eval e X.env) :: starEach es X.env := by rfl) (hpl : (backTo pos (starEach es X.env)).any (·.1) = false := by rfl)
    (ht : eval (.Call (.Attribute o m apos) (e :: es) [] pos) X.env = (do
      let ov ← eval o X.env
      standAt apos.atName
      let (f, first) ← holding [ov] (getMethod ov m pl)
      callWith pos f first (backTo pos (starEach (e :: es) X.env)) (backToKw pos (keywordEach [] X.env))) := by rfl) : SE X T W (.Call (.Attribute o m apos) (e :: es) [] pos) (mMeth c m fn oa os) := by
  obtain ⟨fd, F, B⟩ := D.ex
  exact se_meth c1 hm F hr B he ha hst hpl ht
theorem sd_make {c : Str} (M0 : Mk X.K (cA X.K c) f) (D : DfX X T k f ps fn) (hr : Room (k + 1) X.A) (hg : Gl X x) (hm : X.mg x = some (.ref (cA X.K c))) (ha : SA X T W (e :: es) os)
    (hdb : (x == ("__debug__" : Str)) = false := by decide) (he : starEach (e :: es) X.env = (false, eval e X.env) :: starEach es X.env := by rfl) (hpl : (backTo pos (starEach es X.env)).any (·.1) = false := by rfl) : SE X T W (.Call (.Name x p) (e :: es) [] pos) (mMake c fn os) := by
  obtain ⟨fd, F, B⟩ := D.ex
  exact se_make M0 F hr hg hm B ha hdb he hpl
theorem se_slB {a b c : Expr} {oa ob oc : Opd} {p2 pos : Pos} (ha : SO X T W a oa) (hb : SO X T W b ob) (hc : SO X T W c oc) : SE X T W (.Subscript a (.Slice (some b) (some c) none p2) pos) (mSlB oa ob oc) :=
  PE.imp (pe_slice sl_seq ha (po_some hb) (po_some hc)) fun σ H Q ⟨φ, s, rel, hp⟩ => by
    refine opd_step rel hp (fun _ z => z) _ fun x H1 φ1 s1 pa pr1 ex1 rel1 pn1 hp1 => ?_
    refine opd_step rel1 hp1 (fun p z => .inr (.inl z)) _ fun y H2 φ2 s2 pb pr2 ex2 rel2 pn2 hp2 => ?_
    have pn1' := pn1.ext pr2 ex2
    split at hp2
    · rename_i i hi
      refine ⟨i, Rv.int_inv (pnd_now rel2 pn2 hi), ?_⟩
      refine opd_step rel2 hp2 (fun p z => .inr (.inl z)) _ fun z H3 φ3 s3 pc pr3 ex3 rel3 pn3 hp3 => ?_
      have pn1'' := pn1'.ext pr3 ex3
      split at hp3
      · rename_i r j hr hj
        exact ⟨j, Rv.int_inv (pnd_now rel3 pn3 hj), fin_sl rel3 (pnd_now rel3 pn1'' hr) (fun p z => .inr (.inl z)) hp3⟩
      · exact (show False from hp3).elim
    · exact (show False from hp2).elim
theorem units65 {A : Around} (r : Room k A) : A.units + 65 < cLine := by have := r.un; omega
theorem units1 {k : Nat} {A : Around} (r : Room k A) : A.units + 1 < cLine := by have := r.un; omega
end
/-- a list scope, parameters first -/
theorem fs_by {N P : List Str} {sc : Scope} (h : ((match sc.kind with | .function => true | _ => false) && (!sc.isCoroutine && (!sc.isGenerator && (decide N.Nodup && (decide (N.take P.length = P) && (P.all (fun x => match sc.names.lookup x with | some .local => true | some .cell => true | _ => false) && sc.names.all fun y => match y.2 with | .free => false | _ => true)))))) = true) : FnScope N P sc := by
  simp only [Bool.and_eq_true, Bool.not_eq_true', decide_eq_true_eq, List.all_eq_true] at h
  obtain ⟨h1, h2, h3, h4, h5, h6, h7⟩ := h
  refine ⟨?_, h2, h3, h4, h5, fun x hx => ?_, fun y hy e => ?_⟩
  · split at h1
    · assumption
    · cases h1
  · have := h6 x hx
    split at this
    · exact .inl (by assumption)
    · exact .inr (by assumption)
    · cases this
  · have := h7 y hy
    rw [e] at this
    cases this
end Py

set_option Elab.async false
set_option linter.all false
set_option maxRecDepth 100000
set_option maxHeartbeats 4000000
/-! P19: a def that calls the lambda that it got and answers an own exception with a value. -/
namespace Py
open PySem PySem.Spec PyProof.Rows L2
/-- the lambda's body run in the caller's frame; an exception of class c without fields becomes wf c -/
def mWord (wf : Str → Option IV) (m : M RV) : M RV := fun s => match m s with
  | .ok (.v r) s1 => .ok (.v r) s1
  | .exn c [] s1 => (match wf c with
    | some z => (match litV z with
      | some _ => .ok (.v z) s1
      | none => .bad)
    | none => .bad)
  | _ => .bad
/-- what such a def makes of the lambda's reading -/
def TTw (K : PySem.W.Frag) (wf : Str → Option IV) : (XK → Hp → VK → Prop) → Hp → VK → Prop := fun tl H Q =>
  ∀ (E : XK) (Q' : VK), (∀ cls d H', (∃ c z v, cls = .ref (cA K c) ∧ d = none ∧ wf c = some z ∧ litV z = some v ∧ ∀ H2, (∀ a o, H' a = some o → H2 a = some o) → Q v H2) → E cls d H') → (∀ v H', Q v H' → Q' v H') → tl E H Q'
section
variable {K : PySem.W.Frag} {T : Tp} {φ : List Addr} {σ : L2.St} {H H1 : Hp} {s : S}
theorem Ext.ofN {A : Addr → Prop} (e : LamX.ExtN H H1) : Ext A H A H1 where
  new := fun _ z => .inl z
  keep := fun a o h _ t => e a o h t
  dom := fun a z o h => by
    by_cases ht : ∃ ps, o = .tbl ps
    · exact ht
    · exact (z.no (e a o h fun ps q => ht ⟨ps, q⟩) fun ps q => ht ⟨ps, q⟩).elim
  imm := fun a o h i => e a o h fun ps q => by
    rw [q] at i
    cases i
theorem Ext.grow {A : Addr → Prop} (g : ∀ a o, H a = some o → H1 a = some o) : Ext A H A H1 := ⟨fun _ z => .inl z, fun a o h _ _ => g a o h, fun a z o h => z o (g a o h), fun a o h _ => g a o h⟩
theorem Rel.extN (rel : Rel K T φ σ H s) (e : LamX.ExtN H H1) (t : LamX.Tabs T.tabs H1) : Rel K T φ σ H1 s :=
  rel.stay (Ext.ofN (A := Mi φ s.env σ) e) (fun a u m h => by
    obtain ⟨w, h1, _, h2⟩ := rel.there m
    rw [h] at h1
    cases h1
    exact e a u h h2) (fun a u m h => by
    have nf := (rel.bor a m).1
    by_cases ht : ∃ ps, u = .tbl ps
    · exact (nf fun o q => by
        rw [h] at q
        cases q
        exact ht).elim
    · exact e a u h fun ps q => ht ⟨ps, q⟩) t
theorem lit_rv {z : IV} {v : V} (h : litV z = some v) : Rv K φ H z v := .lit h .nil
end
section
variable {X : Cx} {T : Tp} {W : WX} {m : M RV} {wf : Str → Option IV}
theorem i_word {σ : L2.St} {H : Hp} {Q : VK} (h : tE X.K T W (mWord wf m) σ H Q) : LamX.tLam T.tabs (TTw X.K wf) (fun E => tE X.K T (We E) m) σ H Q := by
  obtain ⟨φ, s, rel, hp⟩ := h
  refine ⟨rel.tab, fun H1 eN t1 E Q' hE hQ => ⟨φ, s, rel.extN eN t1, ?_⟩⟩
  have x1 : Ext (Mi φ s.env σ) H (Mi φ s.env σ) H1 := Ext.ofN eN
  unfold mWord at hp
  cases q : m s with
  | bad =>
    simp only [q] at hp
    exact hp
  | ok r s1 =>
    simp only [q] at hp
    cases r with
    | v y => exact fun φ' H' b pr x rel' rr => hQ _ _ (hp φ' H' b pr (x1.trans x) rel' rr)
    | l y => exact (show False from hp).elim
    | f y => exact (show False from hp).elim
    | z y => exact (show False from hp).elim
  | exn c fs s1 =>
    simp only [q] at hp
    cases fs with
    | cons y ys => exact (show False from hp).elim
    | nil =>
      dsimp only at hp
      intro φ' H' d pr x rel' xf
      cases hw : wf c with
      | none =>
        simp only [hw] at hp
        exact (show False from hp).elim
      | some z =>
        cases hl : litV z with
        | none =>
          simp only [hw, hl] at hp
          exact (show False from hp).elim
        | some v =>
          simp only [hw, hl] at hp
          have hd : d = none := by
            cases d with
            | none => rfl
            | some p => exact absurd rfl xf.1
          refine hE _ _ _ ⟨c, z, v, rfl, hd, hw, hl, fun H2 gr => hp φ' _ v pr ((x1.trans x).trans ((Ext.grow (A := Mi φ' s1.env σ) gr).less fun a w => ?_)) (rel'.stay (Ext.grow (A := Mi φ' s1.env σ) gr) (fun a u _ e => gr a u e) (fun a u _ e => gr a u e) (rel'.tab.ext gr)) (lit_rv hl)⟩
          rcases w with w | w
          · exact w
          · exact (show False from w).elim
/-- x(lambda: body) -/
theorem se_word {x a : Str} {g c P : Addr} {k : Nat} {pg : Arguments} {bg : List Stmt} {sg : Scope} {Ng : List Str} {params : Arguments} {body : Expr} {scope : Scope} {p lpos pos : Pos} (F : ∃ fd, FunD X.K x x pg bg sg [] [] g fd) (hg : Gl X x) (hm : X.mg x = some (.ref g))
    (hbi : ∀ (kV doc pm : Value) (an : Option Addr) (cdv ct : Value) (us : List Value), us.length = [a].length → bindArgs (PySem.W.fnOf x x pg bg sg .none kV doc pm an cdv ct) ⟨us, []⟩ = pure ([a].zip us)) (Sg : FnScope Ng [a] sg) (hNg : Ng[0]? = some a) (hva : Vis sg a)
    (hG : ∀ cdv, LamX.GivesTo X Ng x sg g cdv bg a (X.env.qual ++ "<lambda>") (TTw X.K wf))
    (TB : LamX.TabB X.base X.mg c P) (hcode : X.env.code = .ref c) (hmT : (P, X.env.qual ++ "<lambda>") ∈ T.tabs) (hu : ∀ p ∈ T.tabs, p.1 = P → p.2 = X.env.qual ++ "<lambda>") (hr : Room (k + 2) X.A) (L : LamX.LamS X.env.scope scope) (hdef : defaultsOf params X.env = ([], []))
    (hbind : ∀ (q : Str) (cl : List (Str × Addr)) (pm cv ctv : Value), bindArgs (PySem.W.kla_fn "<lambda>" q params body scope cl pm cv ctv) ⟨[], []⟩ = pure [])
    (hbody : ∀ (A : Around) (outer : List Env) (s : Shared) (H : Hp) (E : XK) (f c' : Addr), Room k (A.deeper (LamX.lamEnv X scope s.heap.objs.size f c')) → SE (LamX.lamCx X A outer s H E scope f c') T (We E) body m)
    (hdb : (x == ("__debug__" : Str)) = false := by decide) (hd : (a == ("__debug__" : Str)) = false := by decide) (hcd : (a == ("__classdict__" : Str)) = false := by decide) :
    SE X T W (.Call (.Name x p) [.Lambda params body scope lpos] [] pos) (mWord wf m) := by
  obtain ⟨fd, F⟩ := F
  have B := F.bindsN hbi
  have kp := F.kp
  obtain ⟨oc, od, dV, kV, doc, pm, an, cdv, ct, osl, rfl, lk, hcd', _, _⟩ := F.ex
  exact PE.imp (LamX.pe_lamcall (t := fun E => tE X.K T (We E) m) hg hm kp lk hcd' B Sg hNg hva (hG cdv) TB hcode hmT hu hr L hdef hbind (fun A outer s H E f c' hr2 => hbody A outer s H E f c' hr2) hdb hd hcd) fun σ H Q h => i_word h
end
theorem PSs.under {X : Cx} {st : List Stmt} {t : TS} {p : Prop} (h : p → PSs X st t) : PSs X st (fun D σ H => p ∧ t D σ H) := ⟨fun pins s σ H D I hw => (h hw.1).run pins s σ H D I hw.2⟩
theorem PSs.len {X : Cx} {st : List Stmt} {t : TS} (h : PSs X st t) : PSs X st (fun D σ H => σ.length = X.N.length → t D σ H) := ⟨fun pins s σ H D I hw => h.run pins s σ H D I (hw I.len)⟩
/-- found = z0; try: found = call(); except hc as e: suite; return found (the suite stores found) -/
theorem word_gives {X : Cx} {Ng : List Str} {x a q hc en fo : Str} {sg : Scope} {g C : Addr} {cdg : Value} {j : Nat} {z0 : Str} {b₀ : Stmt} {suite : List Stmt} {p1 p2 p3 p4 p5 p6 p7 p8 p9 p10 p11 p12 : Pos} {wf : Str → Option IV} {ts : Addr → Value → Option Addr → TS}
    (nd : Ng.Nodup) (hf : Ng[1]? = some fo) (he : Ng[2]? = some en) (lf : sg.names.lookup fo = some .local) (le : sg.names.lookup en = some .local) (lh : sg.names.lookup hc = some .globalImplicit) (mh : X.mg hc = some (.ref C)) (dh : (hc == ("__debug__" : Str)) = false)
    (df : (fo == ("__debug__" : Str)) = false) (cf : (fo == ("__classdict__" : Str)) = false)
    (hsw : ∀ (e : Expr) (l : Nat) (E : Env), e = .Constant (.str z0) j p2 ∨ e = .Call (.Name a p5) [] [] p6 → ∀ pp, swapsWith e (some (.Name fo pp)) l E = pure false)
    (hsu : ∀ (s : Shared) (H : Hp) (a' : Addr) (oe : Obj) (cls : Value) (d : Option Addr) (pn : List (Addr × Obj)), Zc cls d oe → (∃ vs, oe.data = .fields vs) → PSs ((cxOf C8.CX0 X.prog X.w X.K X.mg X.base Ng x sg g cdg X.A X.stack s H C8.E0).nox.suite a' ((a', oe) :: pn)) (b₀ :: suite) (ts a' cls d))
    (exm : ∀ c z, wf c = some z → PySem.W.exmOne X.K (.ref (cA X.K c)) (.ref C) = some true)
    (use : ∀ c z v a' σ H D, wf c = some z → litV z = some v → σ.length = Ng.length → σ[2]? = some (some (.ref a')) → (∀ H2 σ', (∀ a o, H a = some o → H2 a = some o) → σ'.length = Ng.length → σ'[1]? = some (some v) → D.nx σ' H2) → ts a' (.ref (cA X.K c)) none D σ H) (h0 : ∀ f : Addr, (L2.start Ng [V.ref f])[0]? = some (some (V.ref f))) (hl : 2 < Ng.length) :
    LamX.GivesTo X Ng x sg g cdg [.Assign [.Name fo p1] (.Constant (.str z0) j p2) p3, .Try [.Assign [.Name fo p4] (.Call (.Name a p5) [] [] p6) p7] [.ExceptHandler (some (.Name hc p8)) (some en) (b₀ :: suite) p9] [] [] p10, .Return (some (.Name fo p11)) p12] a q (TTw X.K wf) := by
  intro f c' s H Q tl act hc' h
  have hgl : Gl (cxOf C8.CX0 X.prog X.w X.K X.mg X.base Ng x sg g cdg X.A X.stack s H C8.E0).nox hc := lh
  have vf : Vis (cxOf C8.CX0 X.prog X.w X.K X.mg X.base Ng x sg g cdg X.A X.stack s H C8.E0).nox.env.scope fo := .inl lf
  refine ⟨_, pss_cons (ps_set (X := (cxOf C8.CX0 X.prog X.w X.K X.mg X.base Ng x sg g cdg X.A X.stack s H C8.E0).nox) (i := 1) nd hf (.inl lf) pe_str (hsw _ _ _ (.inl rfl) _) (.inl rfl))
    (pss_cons (ps_try_as (X := (cxOf C8.CX0 X.prog X.w X.K X.mg X.base Ng x sg g cdg X.A X.stack s H C8.E0).nox) (c := .ref C) (i := 2) (Wout := fun _ _ _ _ => False)
      (tb := fun W D σ H => ∃ Ech : XK, (∀ cls d σ' H', Ech cls d H' → W cls d σ' H') ∧ σ[0]? = some (some (.ref f)) ∧ H c' = some (LamX.CodeO c' q) ∧ tl Ech H (fun v H1 => D.nx (σ.set 1 (some v)) H1)) (ts := fun a' cls d D σ H => σ.length = Ng.length → ts a' cls d D σ H)
      rfl rfl nd he le ⟨hgl, dh, .inl mh⟩ LamX.takes0 (fun W pn xe tk _ => ?_) (fun a' oe cls d pn hz hd => Py.PSs.len (hsu s H a' oe cls d pn hz hd))) (pss_one (ps_ret (pe_var (i := 1) hf vf df cf)))), ?_⟩
  · refine ⟨fun pins s' σ H' D I h' => ?_⟩
    obtain ⟨Ech, hW, h1, h2, h3⟩ := h'
    exact (pss_one (ps_set (i := 1) nd hf (.inl lf) (act W pn xe Ech p5 p6 tk hW) (hsw _ _ _ (.inr rfl) _) (.inl rfl))).run pins s' σ H' D I ⟨h1, h2, h3⟩
  · have l0 : (L2.start Ng [V.ref f]).length = Ng.length := by
      unfold L2.start
      simp
      omega
    refine ⟨_, fun cls d σ' H' hE => ?_, ?_, hc', h _ _ (fun cls d H' hE => hE) fun v H' hq => ⟨v, ?_, hq⟩⟩
    · obtain ⟨c, z, v, rfl, rfl, hw, hl', hq⟩ := hE
      refine ⟨true, exm c z hw, fun _ a' ha' hlen => use c z v a' _ H' _ hw hl' hlen ?_ fun H2 σ2 gr hlen2 h2 => ⟨v, ?_, hq H2 gr⟩, fun e => by cases e⟩
      · rw [List.length_set] at hlen
        rw [List.getElem?_set_self (by omega)]
      · rw [List.getElem?_set_ne (by decide)]
        exact h2
    · show ((L2.start Ng [V.ref f]).set 1 (some (V.str z0)))[0]? = _
      rw [List.getElem?_set_ne (by decide)]
      exact h0 f
    · show ((((L2.start Ng [V.ref f]).set 1 (some (V.str z0))).set 1 (some v)))[1]? = _
      rw [List.getElem?_set_self (by rw [List.length_set, l0]; omega)]
end Py

set_option Elab.async false
set_option linter.all false
set_option maxRecDepth 100000
set_option maxHeartbeats 4000000
/-! P20: list.count on flat items. -/
namespace Py
open PySem PySem.Spec PyProof.Rows L2
theorem count_flat {x : V} : ∀ {ys : List V} {us : List Value}, Vals ys us → ys.all flatV = true → us.countP (eqU x) = ys.countP fun z => eqV z x
  | _, _, .nil, _ => rfl
  | _, _, .cons r t, f => by
    rw [List.all_cons, Bool.and_eq_true] at f
    rw [List.countP_cons, List.countP_cons, count_flat t f.2, eqU_of r f.1]
def rCntF (K : PySem.W.Frag) : V → List V → Hp → VK → Prop := fun x xs H Q => ∃ (p : Addr) (ys : List V) (y : V), x = .ref p ∧ xs = [y] ∧ SqL K H p ys ∧ flatV y = true ∧ ys.all flatV = true ∧ Q (.int (ys.countP fun z => eqV z y : Nat)) H
theorem mt_countF {X : Cx} : MtR X "list.count" (rCntF X.K) := fun pins s σ H x xs v us Q I rx rxs h => by
  obtain ⟨p, ys, y, rfl, rfl, sq, fy, fys, q⟩ := h
  cases rx
  obtain ⟨u, rfl, ru⟩ := rxs.one
  obtain ⟨its, rv, ⟨⟨k0, dd, dt, sl⟩, n, at0, e1, _, e2⟩, _⟩ := I.list sq
  simp only at e1 e2
  subst e1 e2
  refine call_meets F.slot_list_count ⟨_, at0, rfl⟩ F.entry_list_count (F.args_list_count_2 _ _) (SeqAt.list_countAt p its.toArray n dd sl u (eqU y)) ⟨at0, fun w hw => mem_eqAt ru fy rv fys w (by simpa using hw), ?_⟩
  have ec : its.toArray.toList.countP (eqU y) = ys.countP fun z => eqV z y := count_flat rv fys
  exact ⟨.int (ys.countP fun z => eqV z y : Nat), H, I.tok _, ⟨s.toks, by rw [ec]⟩, q⟩
theorem lam_takes {X : Cx} {A : Around} {outer : List Env} {s : Shared} {H : Hp} {E : XK} {scope : Scope} {f c' : Addr} : Takes (LamX.lamCx X A outer s H E scope f c') (We E) := takes_of rfl rfl rfl rfl
/-- df_of where the body asks its own code object -/
theorem df_ofC {P : Program} {w : World} {K : PySem.W.Frag} {mg : Str → Option Value} {base : Heap} {k n np : Nat} {d : Str × Option Str} {name qual : Str} {params : Arguments} {body : List Stmt} {scope : Scope} {N ps : List Str} {tabs : List (Addr × Str)} {m : M Fl}
    (F : ∃ fd, FunD K name qual params body scope [] [] (He.fAd K d) fd) (fs : FnScope N ps scope) (hn : N.length = n) (hp : ps.length = np)
    (hbi : ∀ (kV doc pm : Value) (an : Option Addr) (cdv ct : Value) (us : List Value), us.length = ps.length → bindArgs (PySem.W.fnOf name qual params body scope .none kV doc pm an cdv ct) ⟨us, []⟩ = pure (ps.zip us))
    (hb : ∀ (bor : List Addr) (A : Around) (outer : List Env) (s : Shared) (H : Hp) (E : XK), Room k (A.deeper (envOfC qual scope s.heap.objs.size (He.fAd K d) (.ref (He.codeOf K d)))) → SB (Xc P w K mg base N qual scope (He.fAd K d) (.ref (He.codeOf K d)) A outer s H E) ⟨tabs, bor⟩ (We E) body m) :
    Df P w K mg base tabs (k + 1) (He.fAd K d) ps (mkFn n np m) := by
  obtain ⟨fd, F⟩ := F
  have B := F.bindsN hbi
  have kp := F.kp
  obtain ⟨oc, od, dV, kV, doc, pm, an, cdv, ct, osl, rfl, lk, hcd, _, _⟩ := F.ex
  obtain ⟨c, rfl⟩ := He.codeIn_ref hcd
  have ec := He.codeOf_eq lk rfl
  refine ⟨⟨_, fn_ok lk hcd fs hn hp ?_, B⟩, kp⟩
  rw [← ec]
  exact hb
end Py

set_option Elab.async false
set_option linter.all false
set_option maxRecDepth 100000
set_option maxHeartbeats 4000000
/-! P21: sorted(set(..)) of texts: the machine's part. -/
namespace Py
open PySem PySem.Spec PyProof.Rows L2 PySem.Froz
abbrev ByText (w : World) : Bool := w.params.followText "set-order"
/-- the texts l lie in the set at a, in some order; it can be walked -/
def Txs (P : Program) (w : World) (h : Heap) (a : Addr) (l : List Str) : Prop :=
  ∃ D : SD, h.get? a = some (sObj "set" D) ∧ TxOk P w D l ∧ l.Nodup ∧ Ris D.2.2.place.toList ∧ (ByText w = true ∨ D.2.2.led = true)
section
variable {P : Program} {w : World} {A : Around} {E : Value → Shared → Prop} {s : Shared} {h h' : Heap} {a : Addr} {l : List Str}
theorem Txs.keep (R : Txs P w h a l) (k : ∀ o, h.get? a = some o → h'.get? a = some o) : Txs P w h' a l := by
  obtain ⟨D, ho, r⟩ := R
  exact ⟨D, k _ ho, r⟩
theorem tail_ris {ep : Nat} {es : Array (Int × Value)} {t : SetTable} {wd : Bool} (r : Ris t.place.toList) : Ris (tailTx ep es t wd).2.2.place.toList := by
  unfold tailTx
  by_cases c : (!wd && t.tooFull) = true
  · rw [if_pos c]
    exact relayAll_ris t es _
  · rw [if_neg c]
    exact r
theorem tail_led {ep : Nat} {es : Array (Int × Value)} {t : SetTable} {wd : Bool} : (tailTx ep es t wd).2.2.led = t.led := by
  unfold tailTx
  by_cases c : (!wd && t.tooFull) = true
  · rw [if_pos c]
    exact relayAll_led t es _
  · rw [if_neg c]
theorem addTx_ris {z : Int} {v : Value} {D : SD} (r : Ris D.2.2.place.toList) : Ris (addTx z v D).2.2.place.toList := by
  unfold addTx
  refine tail_ris ?_
  by_cases c : (layNew D.2.2 D.1 z v).2.1.plain = true
  · rw [if_pos c]
    exact layNew_ris D.2.2 D.1 z v r
  · rw [if_neg c]
    exact layNew_ris D.2.2 D.1 z v r
theorem addTx_led {z : Int} {v : Value} {D : SD} : (addTx z v D).2.2.led = D.2.2.led := by
  unfold addTx
  refine tail_led.trans ?_
  by_cases c : (layNew D.2.2 D.1 z v).2.1.plain = true
  · rw [if_pos c]
    exact layNew_led D.2.2 D.1 z v
  · rw [if_neg c]
    exact layNew_led D.2.2 D.1 z v
/-- a text that is there already -/
theorem there_x {T : String} {D : SD} {k : Str} {u : Tok} {Q : Bool → Shared → Prop} (ho : s.heap.get? a = some (sObj T D)) (F : TxOk P w D l) (hk : k ∈ l) (hb : l.length < scanBound)
    (q : Q false s) : wpAny (model P w) A (setAddHashed a (.str k u) (hashStr w k)) Q E s := by
  obtain ⟨es, ep, t⟩ := D
  have dt : (sObj T (es, ep, t)).data = .set es ep t := rfl
  have el : ElemsOf (strKind P w) es.toList := F.el
  have sz : es.size = l.length := F.sz
  have fit : t.fits es.size = true := F.fit
  have key : (strKind P w).is k (.str k u) = true := is_str k u
  unfold setAddHashed setAddHashedIn
  refine wpAny_holding (wpAny_bind (wpAny_setState_of ho dt fit ?_))
  dsimp only
  rw [byScan_of rfl (by omega) el]
  simp only [↓reduceIte]
  unfold setAddByScan
  refine wpAny_bind (wpAny_bind (wpAny_rule (wpAny_bind (wpAny_setScan_of (knd := strKind P w) (k := k) key ho dt fit el ?_))))
  cases fi : List.findIdx? (fun e => (strKind P w).is k e.2) es.toList with
  | none =>
    obtain ⟨e, he, q2⟩ := (F.mem k).mp hk
    have c := List.findIdx?_eq_none_iff.mp fi e he
    rw [q2] at c
    cases c
  | some j =>
    dsimp only
    exact wpAny_pure (wpAny_pure q)
/-- one text more -/
theorem txs_add {k : Str} {u : Tok} {Q : Bool → Shared → Prop} (R : Txs P w s.heap a l) (hb : l.length + 1 < scanBound)
    (q : ∀ b h1 l1, Heap.SameBut a s.heap h1 → Txs P w h1 a l1 → (∀ x, x ∈ l1 ↔ x ∈ l ∨ x = k) → l1.length ≤ l.length + 1 → Q b { s with heap := h1 }) :
    wpAny (model P w) A (setAddHashed a (.str k u) (hashStr w k)) Q E s := by
  by_cases hk : k ∈ l
  · obtain ⟨D, ho, F, r⟩ := id R
    refine there_x ho F hk (by omega) (q false s.heap l (Heap.SameBut.refl a s.heap) R (fun x => ⟨.inl, fun z => z.elim id fun e => e ▸ hk⟩) (Nat.le_succ _))
  · obtain ⟨D, ho, F, nd, r, ld⟩ := R
    refine add_x ho F hk hb (q true _ (k :: l) (Heap.SameBut.update s.heap a _) ⟨_, get_upd _ ho rfl, add_ok u F, List.nodup_cons.mpr ⟨hk, nd⟩, addTx_ris r, ld.imp id fun z => addTx_led.trans z⟩ (fun x => ?_) (Nat.le_refl _))
    rw [List.mem_cons]
    exact Or.comm
/-- set.update.loop over texts -/
theorem txs_loop {I : Addr} {fp wr : List Addr} {G : Array GenState → Array GenState → Prop} {n : Nat} {Pv : Nat → Value → Prop} {St : Nat → Shared → Prop} {R : Result → Shared → Prop}
    (W : WalksS P w A.in1 I fp wr G n Pv St) (ha : a ∉ fp) (xs : List Str) (hn : n = xs.length) (hb : xs.length + 1 < scanBound) (hv : ∀ i v, Pv i v → ∃ k t, xs[i]? = some k ∧ v = .str k t) :
    ∀ (d i : Nat) (s : Shared), n - i = d → i ≤ n → St i s → (∃ l, Txs P w s.heap a l ∧ (∀ x, x ∈ l ↔ x ∈ xs.take i) ∧ l.length ≤ i) →
      (∀ s1 l, Moved (a :: wr) G s s1 → Txs P w s1.heap a l → (∀ x, x ∈ l ↔ x ∈ xs) → l.length ≤ n → R (.ok (.ret .none)) s1) →
      codeAny (model P w) A (.builtin "set.update.loop" ⟨[.ref a, .ref I], []⟩) R s := by
  have aw : a ∉ wr := fun z => ha (W.sub _ z)
  intro d
  induction d with
  | zero =>
    intro i s e1 e2 st ⟨l, R0, m0, c0⟩ fin
    have ei : i = n := by omega
    subst ei
    refine codeAny_builtin PyProof.Rows.F.entry_set_update_loop ?_
    rw [Around.under_plainId PyProof.Rows.F.plain_set_update_loop _]
    show wpAny _ A.in1 (pyNext (.ref I) >>= _) _ _ s
    refine wpAny_bind (W.done s _ _ st fun s1 mv => ?_)
    show wpAny _ A.in1 (ret Value.none) _ _ s1
    exact wpAny_pure (fin s1 l (mv.mono fun b z => List.mem_cons_of_mem _ z) (R0.keep fun o e => mv.heap a o aw e) (fun x => by rw [m0 x, List.take_of_length_le (by omega)]) c0)
  | succ d ih =>
    intro i s e1 e2 st ⟨l, R0, m0, c0⟩ fin
    have lt : i < n := by omega
    refine codeAny_builtin PyProof.Rows.F.entry_set_update_loop ?_
    rw [Around.under_plainId PyProof.Rows.F.plain_set_update_loop _]
    show wpAny _ A.in1 (pyNext (.ref I) >>= _) _ _ s
    refine wpAny_bind (W.item i s _ _ lt st fun v s1 pv st1 mv => ?_)
    obtain ⟨z, t, hz, rfl⟩ := hv i v pv
    have R1 : Txs P w s1.heap a l := R0.keep fun o e => mv.heap a o aw e
    show wpAny _ A.in1 (holding [Value.str z t] (setAdd a (.str z t)) >>= _) _ _ s1
    refine wpAny_bind (wpAny_holding ?_)
    unfold setAdd
    refine wpAny_holding (wpAny_bind ((strKind P w).pyHash (k := z) (is_str _ _) ?_))
    refine txs_add (s := { s1 with toks := s1.toks + 1 }) R1 (by omega) fun b h1 l1 sb R2 m2 c2 => ?_
    refine wpAny_pure ⟨plainId_quiet PyProof.Rows.F.plain_set_update_loop _, ih (i + 1) _ (by omega) lt (W.frame _ s1 _ _ st1 (Nat.le_succ _) fun b hb2 o e => ?_) ⟨l1, R2, fun x => ?_, by omega⟩ fun s2 l2 mv2 R3 m3 c3 => ?_⟩
    · exact (sb.2 b (fun z => ha (z ▸ hb2))).trans e
    · rw [m2 x, m0 x, List.take_add_one, hz]
      simp [List.mem_append]
    · refine fin s2 l2 (Moved.trans W.gtrans ((mv.mono fun b z => List.mem_cons_of_mem _ z).then_heap (Nat.le_succ _) fun b o hb2 e => ?_) mv2) R3 m3 c3
      exact (sb.2 b (fun z => hb2 (z ▸ List.mem_cons_self))).trans e
theorem txs_new (ho : h.get? a = some { cls := .type "set", dict := none, data := .set #[] 0 (.fresh 0 0 (!ByText w)) }) : Txs P w h a [] :=
  ⟨(#[], 0, .fresh 0 0 (!ByText w)), ho, TxOk.nil rfl, List.nodup_nil, List.Pairwise.nil, by
    show _ ∨ (!ByText w) = true
    cases ByText w
    · exact .inr rfl
    · exact .inl rfl⟩
set_option maxHeartbeats 3200000 in
theorem set_list {b : Addr} {items : Array Value} (xs : List Str) {Q : Value → Shared → Prop} (hh : A.handled = none) (hl : s.heap.IsList b items) (hi : StrsAre items.toList xs) (hb : xs.length + 1 < scanBound)
    (q : ∀ (h1 : Heap) (tk : Nat) (l : List Str), Txs P w h1 s.heap.objs.size l → (∀ x, x ∈ l ↔ x ∈ xs) → l.length ≤ xs.length → (∀ c o, s.heap.get? c = some o → h1.get? c = some o) → Q (.ref s.heap.objs.size) { s with heap := h1, toks := tk }) :
    wpAny (model P w) A (call (.type "set") [.ref b]) Q E s := by
  have len : xs.length = items.size := by rw [← StrsAre.len_eq hi, Array.length_toList]
  have at_ : ∀ (i : Nat) (v : Value), items[i]? = some v → ∃ k t, xs[i]? = some k ∧ v = .str k t := fun i v hv => by
    obtain ⟨t, e⟩ := SS.strs_at hi i v (by rw [Array.getElem?_toList]; exact hv)
    have lt : i < xs.length := by rw [len]; exact (Array.getElem?_eq_some_iff.mp hv).1
    exact ⟨xs[i], t, List.getElem?_eq_getElem lt, by rw [e, List.getD_eq_getElem?_getD, List.getElem?_eq_getElem lt]; rfl⟩
  obtain ⟨c, tl, hmro⟩ := PySem.F.called_set.mro
  have f1 := PySem.F.called_set.made
  have f2 := PySem.F.called_set.sub
  have f3 := PySem.F.called_set.notType
  have f4 := PySem.F.called_set.canCreate
  have f5 := PySem.F.typeCall_set_1 (.ref b)
  refine wpAny_call (codeAny_of_tree ?_)
  show wpAny _ _ (callAny (.type "set") _) _ _ _
  refine wpAny_pure ⟨Code.quiet_builtin _ (by decide +kernel), codeAny_builtin PySem.F.entry_type_call ?_⟩
  rw [Around.under_plain (weight_type_call_type "set" [.ref b] []) rfl]
  repeat (any_goals (first | assumption | wp_step))

  refine codeAny_mono (code_set_led1 (.ref b) (E := E) (Q₁ := fun v s1 => v = .ref s.heap.objs.size ∧ s1 = { s with heap := s.heap.push { cls := .type "set", dict := none, data := .set #[] 0 (.fresh 0 0 (!w.params.followText "set-order")) } }) ⟨rfl, rfl⟩) fun r s1 hr => ?_
  cases r with
  | error e => exact hr
  | ok fl =>
    cases fl with
    | ret obj =>
      obtain ⟨rfl, rfl⟩ := hr
      have g0 : (s.heap.push { cls := .type "set", dict := none, data := .set #[] 0 (.fresh 0 0 (!w.params.followText "set-order")) }).get? s.heap.objs.size = some { cls := .type "set", dict := none, data := .set #[] 0 (.fresh 0 0 (!w.params.followText "set-order")) } := Heap.get?_push_size _ rfl
      have ty : Shared.TypeIs { s with heap := s.heap.push { cls := .type "set", dict := none, data := .set #[] 0 (.fresh 0 0 (!w.params.followText "set-order")) } } (.ref s.heap.objs.size) "set" := ⟨_, g0, rfl⟩
      have li := PySem.F.called_set.init.lookup
      have bi := PySem.F.called_set.init.bind (.ref s.heap.objs.size)
      repeat (any_goals (first | assumption | wp_step))

      refine codeAny_mono (codeAny_call_builtin (R := wants (fun r s2 => r = .none ∧ ∃ h1 tk l, s2 = { s with heap := h1, toks := tk } ∧ Txs P w h1 s.heap.objs.size l ∧ (∀ x, x ∈ l ↔ x ∈ xs) ∧ l.length ≤ xs.length ∧
          (∀ c o, s.heap.get? c = some o → h1.get? c = some o)) E) PySem.F.called_set.init.plain PySem.F.entry_set_init (check_set_init_1 ty ?_)) fun r2 s2 hr2 => ?_
      · obtain ⟨⟨ocls, odict, odata, oslots⟩, hol, hcl, nl, hdl⟩ := hl
        simp only at hcl hdl
        subst hcl; subst hdl
        have gb : (s.heap.push { cls := .type "set", dict := none, data := .set #[] 0 (.fresh 0 0 (!w.params.followText "set-order")) }).get? b = some { cls := .type "list", dict := odict, data := .seq items nl, slots := oslots } := Heap.get?_push_of_some _ hol
        have c1 := PySem.F.sub_list_set
        have c2 := PySem.F.sub_list_frozenset
        have c3 : (Value.type "list" == Value.type "dict") = false := by decide
        have il : (s.heap.push { cls := .type "set", dict := none, data := .set #[] 0 (.fresh 0 0 (!w.params.followText "set-order")) }).IsList b items := ⟨_, gb, rfl, nl, rfl⟩
        unfold Builtin.«set.__init__» noKeywords Builtin.Frozenset.updateFrom
        generalize hPI : pyIter = PI
        wp_walk
        subst hPI

        refine wpAny_pyIter_list il ?_
        refine wpAny_bind (wpAny_runValue ?_)
        have lb : b < s.heap.objs.size := Heap.lt_size hol
        have h3 : A.in1.in1.in1.handled = none := by simp [hh]
        have z1 : (s.heap.push { cls := .type "set", dict := none, data := .set #[] 0 (.fresh 0 0 (!w.params.followText "set-order")) }).objs.size = s.heap.objs.size + 1 := Heap.size_push ..
        have ne1 : b ≠ (s.heap.push { cls := .type "set", dict := none, data := .set #[] 0 (.fresh 0 0 (!w.params.followText "set-order")) }).objs.size := by rw [z1]; exact Nat.ne_of_lt (Nat.lt_succ_of_lt lb)
        have nf : s.heap.objs.size ∉ [(s.heap.push { cls := .type "set", dict := none, data := .set #[] 0 (.fresh 0 0 (!w.params.followText "set-order")) }).objs.size, b] := by
          rw [z1]
          simp only [List.mem_cons, List.not_mem_nil, or_false, not_or]
          exact ⟨Nat.ne_of_lt (Nat.lt_succ_self _), Nat.ne_of_gt lb⟩
        refine txs_loop ((Walks.list h3 _ b ne1 items).toS) nf xs len.symm hb at_ (items.size - 0) 0 _ (by omega) (Nat.zero_le _) ⟨⟨_, Heap.get?_push_size _ rfl, rfl, rfl⟩, (il.push _)⟩ ?hS0 ?hR
        case hS0 => exact ⟨[], txs_new (Heap.get?_push_of_some _ g0), fun x => by simp, Nat.zero_le _⟩
        case hR =>
          intro s3 l mv R3 m3 c3'
          obtain ⟨h1, g1, d1, tk1, os1⟩ := s3
          have eg : g1 = s.gens := mv.gens
          have ed : d1 = s.drawn := mv.drawn
          have eo : os1 = s.os := mv.os
          subst eg; subst ed; subst eo
          show wpAny _ _ _ _ _ _
          refine wpAny_pure ?_
          show wpAny _ _ (ret Value.none) _ _ _
          refine wpAny_pure ⟨rfl, h1, tk1, l, rfl, R3, m3, by omega, fun c o e => ?_⟩
          have cb := Heap.lt_size e
          refine mv.heap c o ?_ (Heap.get?_push_of_some _ (Heap.get?_push_of_some _ e))
          rw [z1]
          simp only [List.mem_cons, List.not_mem_nil, or_false, not_or]
          exact ⟨Nat.ne_of_lt cb, Nat.ne_of_lt (Nat.lt_succ_of_lt cb)⟩

      · cases r2 with
        | error e => exact hr2
        | ok fl2 =>
          cases fl2 with
          | ret r =>
            obtain ⟨rfl, h1, tk, l, rfl, k1, k2, k3, k4⟩ := hr2
            repeat (any_goals (first | assumption | wp_step))
            exact q _ _ l k1 k2 k3 k4
          | _ => exact hr2.elim
    | _ => exact hr.elim
set_option maxHeartbeats 3200000 in
theorem set_tuple {b : Addr} {items : Array Value} (xs : List Str) {Q : Value → Shared → Prop} (hh : A.handled = none) (hl : s.heap.IsTuple b items) (hi : StrsAre items.toList xs) (hb : xs.length + 1 < scanBound)
    (q : ∀ (h1 : Heap) (tk : Nat) (l : List Str), Txs P w h1 s.heap.objs.size l → (∀ x, x ∈ l ↔ x ∈ xs) → l.length ≤ xs.length → (∀ c o, s.heap.get? c = some o → h1.get? c = some o) → Q (.ref s.heap.objs.size) { s with heap := h1, toks := tk }) :
    wpAny (model P w) A (call (.type "set") [.ref b]) Q E s := by
  have len : xs.length = items.size := by rw [← StrsAre.len_eq hi, Array.length_toList]
  have at_ : ∀ (i : Nat) (v : Value), items[i]? = some v → ∃ k t, xs[i]? = some k ∧ v = .str k t := fun i v hv => by
    obtain ⟨t, e⟩ := SS.strs_at hi i v (by rw [Array.getElem?_toList]; exact hv)
    have lt : i < xs.length := by rw [len]; exact (Array.getElem?_eq_some_iff.mp hv).1
    exact ⟨xs[i], t, List.getElem?_eq_getElem lt, by rw [e, List.getD_eq_getElem?_getD, List.getElem?_eq_getElem lt]; rfl⟩
  obtain ⟨c, tl, hmro⟩ := PySem.F.called_set.mro
  have f1 := PySem.F.called_set.made
  have f2 := PySem.F.called_set.sub
  have f3 := PySem.F.called_set.notType
  have f4 := PySem.F.called_set.canCreate
  have f5 := PySem.F.typeCall_set_1 (.ref b)
  refine wpAny_call (codeAny_of_tree ?_)
  show wpAny _ _ (callAny (.type "set") _) _ _ _
  refine wpAny_pure ⟨Code.quiet_builtin _ (by decide +kernel), codeAny_builtin PySem.F.entry_type_call ?_⟩
  rw [Around.under_plain (weight_type_call_type "set" [.ref b] []) rfl]
  repeat (any_goals (first | assumption | wp_step))

  refine codeAny_mono (code_set_led1 (.ref b) (E := E) (Q₁ := fun v s1 => v = .ref s.heap.objs.size ∧ s1 = { s with heap := s.heap.push { cls := .type "set", dict := none, data := .set #[] 0 (.fresh 0 0 (!w.params.followText "set-order")) } }) ⟨rfl, rfl⟩) fun r s1 hr => ?_
  cases r with
  | error e => exact hr
  | ok fl =>
    cases fl with
    | ret obj =>
      obtain ⟨rfl, rfl⟩ := hr
      have g0 : (s.heap.push { cls := .type "set", dict := none, data := .set #[] 0 (.fresh 0 0 (!w.params.followText "set-order")) }).get? s.heap.objs.size = some { cls := .type "set", dict := none, data := .set #[] 0 (.fresh 0 0 (!w.params.followText "set-order")) } := Heap.get?_push_size _ rfl
      have ty : Shared.TypeIs { s with heap := s.heap.push { cls := .type "set", dict := none, data := .set #[] 0 (.fresh 0 0 (!w.params.followText "set-order")) } } (.ref s.heap.objs.size) "set" := ⟨_, g0, rfl⟩
      have li := PySem.F.called_set.init.lookup
      have bi := PySem.F.called_set.init.bind (.ref s.heap.objs.size)
      repeat (any_goals (first | assumption | wp_step))

      refine codeAny_mono (codeAny_call_builtin (R := wants (fun r s2 => r = .none ∧ ∃ h1 tk l, s2 = { s with heap := h1, toks := tk } ∧ Txs P w h1 s.heap.objs.size l ∧ (∀ x, x ∈ l ↔ x ∈ xs) ∧ l.length ≤ xs.length ∧
          (∀ c o, s.heap.get? c = some o → h1.get? c = some o)) E) PySem.F.called_set.init.plain PySem.F.entry_set_init (check_set_init_1 ty ?_)) fun r2 s2 hr2 => ?_
      · obtain ⟨⟨ocls, odict, odata, oslots⟩, hol, hcl, nl, hdl⟩ := hl
        simp only at hcl hdl
        subst hcl; subst hdl
        have gb : (s.heap.push { cls := .type "set", dict := none, data := .set #[] 0 (.fresh 0 0 (!w.params.followText "set-order")) }).get? b = some { cls := .type "tuple", dict := odict, data := .seq items nl, slots := oslots } := Heap.get?_push_of_some _ hol
        have c1 := PySem.F.sub_tuple_set
        have c2 := PySem.F.sub_tuple_frozenset
        have c3 : (Value.type "tuple" == Value.type "dict") = false := by decide
        have il : (s.heap.push { cls := .type "set", dict := none, data := .set #[] 0 (.fresh 0 0 (!w.params.followText "set-order")) }).IsTuple b items := ⟨_, gb, rfl, nl, rfl⟩
        unfold Builtin.«set.__init__» noKeywords Builtin.Frozenset.updateFrom
        generalize hPI : pyIter = PI
        wp_walk
        subst hPI

        refine wpAny_pyIter_tuple il ?_
        refine wpAny_bind (wpAny_runValue ?_)
        have lb : b < s.heap.objs.size := Heap.lt_size hol
        have h3 : A.in1.in1.in1.handled = none := by simp [hh]
        have z1 : (s.heap.push { cls := .type "set", dict := none, data := .set #[] 0 (.fresh 0 0 (!w.params.followText "set-order")) }).objs.size = s.heap.objs.size + 1 := Heap.size_push ..
        have ne1 : b ≠ (s.heap.push { cls := .type "set", dict := none, data := .set #[] 0 (.fresh 0 0 (!w.params.followText "set-order")) }).objs.size := by rw [z1]; exact Nat.ne_of_lt (Nat.lt_succ_of_lt lb)
        have nf : s.heap.objs.size ∉ [(s.heap.push { cls := .type "set", dict := none, data := .set #[] 0 (.fresh 0 0 (!w.params.followText "set-order")) }).objs.size, b] := by
          rw [z1]
          simp only [List.mem_cons, List.not_mem_nil, or_false, not_or]
          exact ⟨Nat.ne_of_lt (Nat.lt_succ_self _), Nat.ne_of_gt lb⟩
        refine txs_loop ((Walks.tuple h3 _ b ne1 items).toS) nf xs len.symm hb at_ (items.size - 0) 0 _ (by omega) (Nat.zero_le _) ⟨⟨_, Heap.get?_push_size _ rfl, rfl, rfl⟩, (il.push _)⟩ ?hS0 ?hR
        case hS0 => exact ⟨[], txs_new (Heap.get?_push_of_some _ g0), fun x => by simp, Nat.zero_le _⟩
        case hR =>
          intro s3 l mv R3 m3 c3'
          obtain ⟨h1, g1, d1, tk1, os1⟩ := s3
          have eg : g1 = s.gens := mv.gens
          have ed : d1 = s.drawn := mv.drawn
          have eo : os1 = s.os := mv.os
          subst eg; subst ed; subst eo
          show wpAny _ _ _ _ _ _
          refine wpAny_pure ?_
          show wpAny _ _ (ret Value.none) _ _ _
          refine wpAny_pure ⟨rfl, h1, tk1, l, rfl, R3, m3, by omega, fun c o e => ?_⟩
          have cb := Heap.lt_size e
          refine mv.heap c o ?_ (Heap.get?_push_of_some _ (Heap.get?_push_of_some _ e))
          rw [z1]
          simp only [List.mem_cons, List.not_mem_nil, or_false, not_or]
          exact ⟨Nat.ne_of_lt cb, Nat.ne_of_lt (Nat.lt_succ_of_lt cb)⟩

      · cases r2 with
        | error e => exact hr2
        | ok fl2 =>
          cases fl2 with
          | ret r =>
            obtain ⟨rfl, h1, tk, l, rfl, k1, k2, k3, k4⟩ := hr2
            repeat (any_goals (first | assumption | wp_step))
            exact q _ _ l k1 k2 k3 k4
          | _ => exact hr2.elim
    | _ => exact hr.elim
/-- the texts of a list of values -/
theorem strs_of : ∀ (vs : List Value), (∀ v ∈ vs, ∃ k t, v = Value.str k t) → ∃ ks, StrsAre vs ks
  | [], _ => ⟨[], .nil⟩
  | v :: vs, h => by
    obtain ⟨k, t, rfl⟩ := h v List.mem_cons_self
    obtain ⟨ks, r⟩ := strs_of vs fun u hu => h u (List.mem_cons_of_mem _ hu)
    exact ⟨k :: ks, .cons _ _ r⟩
theorem strs_mem {k : Str} : ∀ {vs : List Value} {ks : List Str}, StrsAre vs ks → (k ∈ ks ↔ ∃ t, Value.str k t ∈ vs)
  | _, _, .nil => ⟨fun z => (by cases z), fun ⟨_, z⟩ => (by cases z)⟩
  | _, _, .cons x t r => by
    rw [List.mem_cons, strs_mem r]
    constructor
    · rintro (rfl | ⟨t', z⟩)
      · exact ⟨_, List.mem_cons_self⟩
      · exact ⟨t', List.mem_cons_of_mem _ z⟩
    · rintro ⟨t', z⟩
      rcases List.mem_cons.mp z with e | z
      · cases e
        exact .inl rfl
      · exact .inr ⟨t', z⟩
/-- sorted of a set of texts -/
theorem sorted_txs {Q : Value → Shared → Prop} (R : Txs P w s.heap a l) (hh : A.handled = none) (h64 : l.length < 64)
    (q : ∀ (s1 : Shared) p (out : Array Value) (c : Nat) (ys : List Str), (∀ b o, s.heap.get? b = some o → s1.heap.get? b = some o) → s1.gens = s.gens → s1.os = s.os → s.heap.objs.size ≤ p →
      s1.heap.get? p = some (seqObj "list" out c) → StrsAre out.toList ys → sortedS ys = true → (∀ k, k ∈ ys ↔ k ∈ l) → ys.length = l.length → Q (.ref p) s1) :
    wpAny (model P w) A (call (.builtin "sorted") [.ref a]) Q E s := by
  obtain ⟨⟨es, ep, t⟩, ho, F, nd, r, ld⟩ := R
  have sz : es.size = l.length := F.sz
  have hb : es.size < scanBound := by rw [sz]; unfold scanBound; omega
  refine Calls.call_function_entry PyProof.Rows.kind_sorted PyProof.Rows.plain_sorted PyProof.Rows.entry_sorted (PyProof.Rows.args_sorted1 _) ?_
  unfold Builtin.«sorted»
  refine wpAny_bind (m := checkCount "sorted" 1 1 _) (wpAny_pure ?_)
  refine wpAny_bind (collect_set (A := A.in1) hh ⟨_, ho, rfl, rfl⟩ F.fit hb r ld fun s1 vs k1 z1 g1 o1 pm => ?_)
  have vl : vs.length = l.length := by rw [pm.length_eq, List.length_map, Array.length_toList]; exact sz
  have vi : ∀ v ∈ vs, ∃ k t, v = Value.str k t := fun v hv => by
    obtain ⟨e, he, rfl⟩ := List.mem_map.mp (pm.mem_iff.mp hv)
    obtain ⟨⟨k, hk, _⟩, _⟩ := F.el e he
    obtain ⟨t, e2⟩ := Value.isStrOf_shape hk
    exact ⟨k, t, e2⟩
  obtain ⟨ks, hS⟩ := strs_of vs vi
  have km : ∀ k, k ∈ ks ↔ k ∈ l := fun k => by
    rw [strs_mem hS, F.mem k]
    constructor
    · rintro ⟨t, z⟩
      obtain ⟨e, he, e2⟩ := List.mem_map.mp (pm.mem_iff.mp z)
      exact ⟨e, he, by rw [e2]; exact is_str k t⟩
    · rintro ⟨e, he, e2⟩
      obtain ⟨t, e3⟩ := Value.isStrOf_shape e2
      exact ⟨t, pm.mem_iff.mpr (List.mem_map.mpr ⟨e, he, e3⟩)⟩
  refine wpAny_bind (wpAny_newList ?_ (by rw [vl, sizeLine_eq]; omega))
  have hL : (s1.heap.push (seqObj "list" vs.toArray 0)).get? s1.heap.objs.size = some (seqObj "list" vs.toArray 0) := Heap.get?_push_size _ rfl
  refine wpAny_bind (wpAny_holding (wpAny_call_entry PyProof.Rows.slot_list_sort ⟨_, hL, rfl⟩ PyProof.Rows.entry_list_sort
    (list_sort_treeK strKind_oneLt (s := { s1 with heap := s1.heap.push (seqObj "list" vs.toArray 0) }) hL hS.keysOf (fun v₁ v₂ rest e => keyKind_strs (by rw [← e]; exact hS)) (by rw [vl]; exact h64) fun st' hp hs => ⟨_, rfl, ?_⟩)
    (PyProof.Rows.args_list_sort _)))
  obtain ⟨ys, y1, y2, y3⟩ := sorted_out_str hS hp hs
  obtain ⟨c, hc⟩ := PyProof.Rows.sortedHeap_at (vs := vs) (out := (arrOf st').map (·.2)) hL
  refine wpAny_pure ⟨_, rfl, q _ s1.heap.objs.size _ c ys (fun b o e => ?_) g1 o1 z1 hc y1 y3 (fun k => by rw [y2.mem_iff]; exact km k) (by rw [y2.length_eq, ← StrsAre.len_eq hS]; exact vl)⟩
  have e2 := k1 b o e
  have lt := Heap.lt_size e2
  show (PyProof.Rows.sortedHeap (s1.heap.push (seqObj "list" vs.toArray 0)) s1.heap.objs.size vs ((arrOf st').map (·.2))).get? b = some o
  rw [PyProof.Rows.sortedHeap_old (Nat.ne_of_lt lt) (by rw [size_push']; exact Nat.lt_succ_of_lt lt)]
  exact Heap.get?_push_of_some _ e2
end
end Py

set_option Elab.async false
set_option linter.all false
set_option maxRecDepth 100000
set_option maxHeartbeats 4000000
/-! P22: sorted(set(..)) of texts: the plain side, the rule. -/
namespace Py
open PySem PySem.Spec PyProof.Rows L2 PySem.Froz

/-! ### the plain side -/
def ltS (a b : Str) : Bool := decide (a.cps.toList < b.cps.toList)
def insS (k : Str) : List Str → List Str
  | [] => [k]
  | x :: r => if k = x then x :: r else if ltS k x then k :: x :: r else x :: insS k r
/-- the unlike texts, ascending -/
def sortU (ss : List Str) : List Str := ss.foldr insS []
theorem str_ext {a b : Str} (h : a.cps.toList = b.cps.toList) : a = b := Str.ext' (Array.toList_inj.mp h)
theorem ltS_trans {a b c : Str} (h : ltS a b = true) (h' : ltS b c = true) : ltS a c = true :=
  decide_eq_true (List.lt_trans (of_decide_eq_true h) (of_decide_eq_true h'))
theorem ltS_irr {a : Str} : ltS a a ≠ true := fun z => List.lt_irrefl _ (of_decide_eq_true z)
theorem ltS_tot {a b : Str} (n : a ≠ b) (h : ltS a b = false) : ltS b a = true := by
  have h1 : ¬ a.cps.toList < b.cps.toList := of_decide_eq_false h
  have h2 : b.cps.toList ≤ a.cps.toList := h1
  refine decide_eq_true ?_
  by_cases c : b.cps.toList < a.cps.toList
  · exact c
  · exact absurd (str_ext (List.le_antisymm (show a.cps.toList ≤ b.cps.toList from c) h2)) n
theorem mem_insS {k z : Str} : ∀ {l : List Str}, z ∈ insS k l ↔ z = k ∨ z ∈ l
  | [] => by simp [insS]
  | x :: r => by
    unfold insS
    by_cases c : k = x
    · rw [if_pos c, c]
      simp
    · rw [if_neg c]
      by_cases d : ltS k x = true
      · rw [if_pos d]
        simp
      · rw [if_neg d]
        simp only [List.mem_cons, mem_insS (l := r)]
        constructor
        · rintro (h | h | h)
          · exact .inr (.inl h)
          · exact .inl h
          · exact .inr (.inr h)
        · rintro (h | h | h)
          · exact .inr (.inl h)
          · exact .inl h
          · exact .inr (.inr h)
abbrev Up (l : List Str) : Prop := l.Pairwise fun a b => ltS a b = true
theorem up_insS {k : Str} : ∀ {l : List Str}, Up l → Up (insS k l)
  | [], _ => List.pairwise_singleton _ _
  | x :: r, h => by
    obtain ⟨h1, h2⟩ := List.pairwise_cons.mp h
    unfold insS
    by_cases c : k = x
    · rw [if_pos c]
      exact h
    · rw [if_neg c]
      by_cases d : ltS k x = true
      · rw [if_pos d]
        refine List.pairwise_cons.mpr ⟨fun z hz => ?_, h⟩
        rcases List.mem_cons.mp hz with e | hz
        · rw [e]
          exact d
        · exact ltS_trans d (h1 z hz)
      · rw [if_neg d]
        refine List.pairwise_cons.mpr ⟨fun z hz => ?_, up_insS h2⟩
        rcases mem_insS.mp hz with e | hz
        · rw [e]
          exact ltS_tot c (by simpa using d)
        · exact h1 z hz
theorem mem_sortU {z : Str} : ∀ {ss : List Str}, z ∈ sortU ss ↔ z ∈ ss
  | [] => by simp [sortU]
  | x :: r => by
    show z ∈ insS x (sortU r) ↔ _
    rw [mem_insS, mem_sortU, List.mem_cons]
theorem up_sortU : ∀ {ss : List Str}, Up (sortU ss)
  | [] => List.Pairwise.nil
  | x :: r => up_insS (up_sortU (ss := r))
theorem up_uniq : ∀ {l m : List Str}, Up l → Up m → (∀ z, z ∈ l ↔ z ∈ m) → l = m
  | [], [], _, _, _ => rfl
  | [], y :: m, _, _, h => absurd ((h y).2 List.mem_cons_self) (fun z => by cases z)
  | x :: l, [], _, _, h => absurd ((h x).1 List.mem_cons_self) (fun z => by cases z)
  | x :: l, y :: m, hl, hm, h => by
    obtain ⟨a1, a2⟩ := List.pairwise_cons.mp hl
    obtain ⟨b1, b2⟩ := List.pairwise_cons.mp hm
    have e : x = y := by
      by_cases c : x = y
      · exact c
      · have p1 : y ∈ l := (List.mem_cons.mp ((h y).2 List.mem_cons_self)).resolve_left (fun z => c z.symm)
        have p2 : x ∈ m := (List.mem_cons.mp ((h x).1 List.mem_cons_self)).resolve_left c
        exact absurd (ltS_trans (a1 y p1) (b1 x p2)) ltS_irr
    subst e
    rw [up_uniq a2 b2 fun z => ?_]
    constructor
    · intro hz
      exact (List.mem_cons.mp ((h z).1 (List.mem_cons_of_mem _ hz))).resolve_left (fun e => ltS_irr (e ▸ a1 z hz))
    · intro hz
      exact (List.mem_cons.mp ((h z).2 (List.mem_cons_of_mem _ hz))).resolve_left (fun e => ltS_irr (e ▸ b1 z hz))
theorem perm_of_len : ∀ {l m : List Str}, l.Nodup → (∀ x ∈ l, x ∈ m) → m.length = l.length → m.Perm l
  | [], m, _, _, h => by rw [List.length_eq_zero_iff.mp h]
  | x :: l, m, nd, h, e => by
    obtain ⟨n1, n2⟩ := List.nodup_cons.mp nd
    have hx := h x List.mem_cons_self
    refine (List.perm_cons_erase hx).trans (List.Perm.cons x (perm_of_len n2 (fun y hy => ?_) ?_))
    · exact (List.mem_erase_of_ne (fun z : y = x => n1 (z ▸ hy))).mpr (h y (List.mem_cons_of_mem _ hy))
    · rw [List.length_erase_of_mem hx, e]
      rfl
theorem up_of : ∀ {p : Str} {l : List Str}, risingS p l = true → (p :: l).Nodup → Up (p :: l)
  | p, [], _, _ => List.pairwise_singleton _ _
  | p, x :: r, h, nd => by
    have h' : (!ltCps x.cps.toList p.cps.toList && risingS x r) = true := h
    obtain ⟨h1, h2⟩ := Bool.and_eq_true_iff.mp h'
    obtain ⟨n1, n2⟩ := List.nodup_cons.mp nd
    have u := up_of h2 n2
    have lt : ltS p x = true := ltS_tot (fun z => n1 (z ▸ List.mem_cons_self)) (by
      show decide _ = false
      rw [← ltCps_eq]
      simpa using h1)
    refine List.pairwise_cons.mpr ⟨fun z hz => ?_, u⟩
    rcases List.mem_cons.mp hz with e | hz
    · rw [e]
      exact lt
    · exact ltS_trans lt ((List.pairwise_cons.mp u).1 z hz)
theorem up_sorted : ∀ {l : List Str}, sortedS l = true → l.Nodup → Up l
  | [], _, _ => List.Pairwise.nil
  | p :: l, h, nd => up_of h nd
def strsI : List IV → Option (List Str)
  | [] => some []
  | .str t :: vs => (match strsI vs with
    | some ss => some (t :: ss)
    | none => none)
  | _ :: _ => none
def gSortSet : G RV := fun rs s => match rs with
  | [r] => (match seqOf s r with
    | some vs => (match strsI vs with
      | some ss => if decide (ss.length < 60) then .ok (.l ((sortU ss).map IV.str)) s else .bad
      | none => .bad)
    | none => .bad)
  | _ => .bad

/-! ### the rule -/
/-- the set of texts at a -/
def TxO (P : Program) (w : World) (a : Addr) (l : List Str) : HO := .ext fun h => Txs P w h a l
section
variable {X : Cx}
theorem txo_new {w : World} {P : Program} {H : Hp} {h : Heap} {a : Addr} {l : List Str} (R : Txs P w h a l) : ObjOk P w H h a (TxO P w a l) := by
  have ⟨D, ho, _⟩ := R
  exact ⟨R, ⟨_, ho⟩, fun h1 h2 p k => Txs.keep p k⟩
def rSetT (X : Cx) : List V → Hp → VK → Prop := fun xs H Q => ∃ (a : Addr) (ss : List Str), xs = [V.ref a] ∧ (SqL X.K H a (ss.map V.str) ∨ SqT X.K H a (ss.map V.str)) ∧ ss.length < 60 ∧
  ∀ p, H p = none → ∀ l : List Str, l.Nodup → (∀ x, x ∈ l ↔ x ∈ ss) → l.length ≤ ss.length → Q (.ref p) (upd H p (TxO X.prog X.w p l))
theorem cr_setT (hc : X.calm = true) : CallR X (.type "set") (rSetT X) := by
  intro pins s σ H xs us Q I r h
  obtain ⟨a, ss, rfl, sq, small, q⟩ := h
  obtain ⟨u, rfl, ru⟩ := vals1 r
  cases ru
  have room : ss.length + 1 < scanBound := by unfold scanBound; omega
  have done : ∀ (h1 : Heap) (tk : Nat) (l : List Str), Txs X.prog X.w h1 s.heap.objs.size l → (∀ x, x ∈ l ↔ x ∈ ss) → l.length ≤ ss.length → (∀ c o, s.heap.get? c = some o → h1.get? c = some o) →
      ∃ v H', Inv X pins σ H' { s with heap := h1, toks := tk } ∧ RelV v (.ref s.heap.objs.size) ∧ Q v H' := fun h1 tk l R m c k => by
    have ⟨D, _, _, nd, _⟩ := R
    exact ⟨.ref s.heap.objs.size, _, I.laid (t' := tk) k (Nat.le_refl _) (txo_new R), rfl, q _ (I.hok.fresh (Nat.le_refl _)) l nd m c⟩
  rcases sq with sq | sq
  · obtain ⟨its, rv, pl, _⟩ := I.list sq
    exact set_list ss (I.ok.hd hc) pl.isList (by simpa using rv.strs) room fun h1 tk l R m c k => done h1 tk l R m c k
  · obtain ⟨its, rv, pt, _⟩ := I.tuple sq
    exact set_tuple ss (I.ok.hd hc) (show s.heap.IsTuple a its.toArray from pt) (by simpa using rv.strs) room fun h1 tk l R m c k => done h1 tk l R m c k
def rSortT (X : Cx) : List V → Hp → VK → Prop := fun xs H Q => ∃ (a : Addr) (l : List Str), xs = [V.ref a] ∧ H a = some (TxO X.prog X.w a l) ∧ l.length < 60 ∧ l.Nodup ∧
  ∀ p, H p = none → ∀ ys : List Str, Up ys → (∀ z, z ∈ ys ↔ z ∈ l) → Q (.ref p) (upd H p (.lst (ys.map V.str)))
theorem cr_sortT (hc : X.calm = true) : CallR X (.builtin "sorted") (rSortT X) := by
  intro pins s σ H vs us Q I r h
  obtain ⟨a, l, rfl, ha, small, nd, q⟩ := h
  have R : Txs X.prog X.w s.heap a l := (I.hok a _ ha).1
  rw [Vals.ref1 r]
  refine sorted_txs R (I.ok.hd hc) (by omega) fun s' p out c ys k g o hp hg hi hs hm hl => ?_
  have pm : ys.Perm l := perm_of_len nd (fun x hx => (hm x).2 hx) hl
  have len : (ys.map V.str).length ≤ sizeLine := by rw [List.length_map, hl, sizeLine_eq]; omega
  have hn : H p = none := I.hok.fresh hp
  have J : Inv X pins σ (upd H p (.lst (ys.map V.str))) { s with heap := s'.heap, gens := s'.gens, drawn := s'.drawn, toks := s'.toks } :=
    I.call (ch := []) (Un.laid k hp hn) (I.hok.laid k hp ⟨len, out.toList, c, vals_of_strs hi, by rw [Array.toArray_toList]; exact hg⟩) (by rw [g]; exact I.bare) (fun _ z => nomatch z)
  have e : s' = { s with heap := s'.heap, gens := s'.gens, drawn := s'.drawn, toks := s'.toks } := by
    cases s'
    cases s
    cases o
    rfl
  rw [e]
  exact ⟨.ref p, _, J, rfl, q p hn ys (up_sorted hs (pm.nodup_iff.mpr nd)) hm⟩
variable {T : Tp} {W : WX} {a : Expr} {oa : Opd} {p pos : Pos}
theorem RvL.strsI {K : PySem.W.Frag} {φ : List Addr} {H : Hp} : ∀ {vs : List IV} {xs : List V} {ss : List Str}, RvL K φ H vs xs → strsI vs = some ss → xs = ss.map V.str
  | [], xs, ss, h, e => by
    cases e
    exact h.inv_nil
  | v :: vs, xs, ss, h, e => by
    obtain ⟨y, ys, rfl, h1, h2⟩ := h.inv_cons
    cases v with
    | str t =>
      have e' : (match Py.strsI vs with
        | some ss => some (t :: ss)
        | none => none) = some ss := e
      split at e'
      · rename_i ss' e2
        cases e'
        rw [h2.strsI e2, Rv.str_inv h1]
        rfl
      · cases e'
    | _ => cases e
theorem RvL.strs {K : PySem.W.Frag} {φ : List Addr} {H : Hp} : ∀ ss : List Str, RvL K φ H (ss.map IV.str) (ss.map V.str)
  | [] => .nil
  | _ :: ss => .lit rfl (RvL.strs ss)
theorem se_sortSet {p' pos' : Pos} (hc : X.calm = true) (hg : Gl X "sorted") (hm : X.mg "sorted" = none) (hg' : Gl X "set") (hm' : X.mg "set" = none) (ha : SA X T W [a] [oa]) (he' : starEach [a] X.env = (false, eval a X.env) :: starEach [] X.env := by rfl)
    (he : starEach [.Call (.Name "set" p') [a] [] pos'] X.env = (false, eval (.Call (.Name "set" p') [a] [] pos') X.env) :: starEach [] X.env := by rfl) :
    SE X T W (.Call (.Name "sorted" p) [.Call (.Name "set" p') [a] [] pos'] [] pos) (mN [oa] gSortSet) :=
  PE.imp (pe_callB (cr_sortT hc) hg hm (by decide +kernel) (pa_cons (pe_callTy (cr_setT hc) hg' hm' (by decide +kernel) ha (he := he')) pa_nil he) (he := he)) fun σ H Q h =>
    op1' (fun x H1 => rSetT X [x] H1 fun y H2 => rSortT X [y] H2 Q) h
      fun x H1 φ1 s1 r1 A rel h1 hA _ hp => by
    unfold gSortSet at hp
    dsimp only at hp
    split at hp
    · rename_i vs hv
      split at hp
      · rename_i ss hs
        split at hp
        · rename_i small
          have small := of_decide_eq_true small
          obtain ⟨p0, xs, rfl, h3, h4⟩ := seq_ok rel h1 hv
          have ex := h3.strsI hs
          subst ex
          refine ⟨p0, ss, rfl, ?_, small, fun q hq l nd m len => ⟨q, l, rfl, upd_same, by omega, nd, fun q2 hq2 ys up my => ?_⟩⟩
          · rcases h4 with ⟨_, h4⟩ | ⟨_, h4, _⟩
            · exact .inr h4
            · exact .inl h4
          · have ey : ys = sortU ss := up_uniq up up_sortU fun z => by rw [my z, m z, mem_sortU]
            subst ey
            have rel2 := rel.alloc (o := TxO X.prog X.w q l) hq
            obtain ⟨f1, f2⟩ := rel2.fresh hq2
            refine hp φ1 _ _ (List.prefix_refl _) (((Ext.alloc (A := A) (o := TxO X.prog X.w q l) hq).trans (Ext.alloc hq2)).less fun a z => ?_) (rel2.alloc hq2) ⟨q2, _, rfl, upd_same, f1, f2, RvL.strs _⟩
            rcases z with z | z
            · exact .inl (.inl (hA a z))
            · exact .inr z
        · exact (show False from hp).elim
      · exact (show False from hp).elim
    · exact (show False from hp).elim
end
end Py

set_option Elab.async false
set_option linter.all false
set_option maxRecDepth 100000
set_option maxHeartbeats 4000000
/-! P23: a text, walked. -/
namespace Py
open PySem PySem.Spec PyProof.Rows L2
def sgI (x : Str) : List IV := x.cps.toList.map fun c => .str ⟨#[c]⟩
def itTx (o : Opd) : M Src := fun s => (o.run s).bind fun pn s1 => match rd s1.env pn with
  | some (.v (.str x)) => .ok (fun _ => some (sgI x)) s1
  | _ => .bad
section
variable {X : Cx} {T : Tp} {W : WX} {tg e : Expr} {o : Opd}
theorem sg_get {x : Str} {k : Nat} {y : IV} (h : (sgI x)[k]? = some y) : ∃ c, x.cps[k]? = some c ∧ y = .str ⟨#[c]⟩ := by
  unfold sgI at h
  rw [List.getElem?_map, Array.getElem?_toList] at h
  obtain ⟨c, h1, h2⟩ := Option.map_eq_some_iff.mp h
  exact ⟨c, h1, h2.symm⟩
theorem src_txt {x : Str} {is : List Nat} {φ : List Addr} {env : List (Option RV)} {σ : L2.St} {H : Hp} : SrcR X.K T is φ env σ H (fun _ => some (sgI x)) (Its x) := fun φ' s' σ' H' vs pr e rel hs hv => by
  cases hv
  refine ⟨fun k y hy => ?_, ?_⟩
  · obtain ⟨c, h1, rfl⟩ := sg_get hy
    refine ⟨(Array.getElem?_eq_some_iff.mp h1).1, fun v H2 hh => ?_⟩
    obtain ⟨e2, c2, h2, e3⟩ := hh
    subst e2
    rw [h1] at h2
    cases h2
    subst e3
    exact ⟨Ext.refl, rel, .lit rfl .nil⟩
  · show x.cps.size ≤ (sgI x).length
    unfold sgI
    rw [List.length_map, Array.length_toList]
    exact Nat.le_refl _
theorem si_txt (h : SO X T W e o) : SI X T W tg e (opSl o) (itTx o) := PI.imp (pi_str h) fun σ H R ⟨φ, s, rel, hp⟩ => by
  refine opd_step' rel hp (fun _ z => z) _ fun x H1 φ1 s1 pa ps pr ex rel1 pn1 hp => ?_
  have x0 : Ext (Mi φ1 s1.env σ) H1 (Mi φ1 s1.env σ) H1 := Ext.refl
  cases q : rd s1.env pa with
  | none =>
    simp only [q] at hp
    exact (show False from hp).elim
  | some r =>
    have rr := pnd_later (is := opSl o) pn1 (fun i e => ps i e) (List.prefix_refl _) x0 rel1 (fun _ _ => rfl) q
    simp only [q] at hp
    split at hp
    · rename_i t e1
      cases e1
      exact ⟨t, Rv.str_inv rr, hp φ1 H1 (Its t) (List.prefix_refl _) (Ext.refl.less fun p z => z.elim (fun z => .inr (.inl z)) fun z => z.elim) rel1 src_txt⟩
    · exact (show False from hp).elim
end
end Py

set_option Elab.async false
set_option linter.all false
set_option maxRecDepth 100000
set_option maxHeartbeats 4000000
/-! P24: some slots forgotten (a comprehension's names that the def uses, too). -/
namespace Py
open PySem PySem.Spec PyProof.Rows L2
def mFg (own : List Nat) (m : M RV) : M RV := fun s => m (clrS own s)
theorem se_fg {X : Cx} {T : Tp} {W : WX} {e : Expr} {m : M RV} (own : List Nat) (h : SE X T W e m) : SE X T W e (mFg own m) :=
  PE.imp h fun σ H Q ⟨φ, s, rel, hp⟩ => ⟨φ, clrS own s, rel.clr.1, Post.weak hp rel.clr.2⟩
end Py

set_option Elab.async false
set_option linter.all false
set_option maxRecDepth 100000
set_option maxHeartbeats 0
namespace Py
open PySem PySem.Spec PyProof.Rows L2
def top (i : Nat) : Stmt := PySem.Challenge.pw_lessonloom_k39_whole_three_timetables_me.main.body.getD i (.Pass ⟨0, 0, 0, 0⟩)

structure Fx (P : Program) (w : World) (K : PySem.W.Frag) (mg : Str → Option Value) (base : Heap) : Prop where
  n_isinstance : mg "isinstance" = none
  n_int : mg "int" = none
  n_bool : mg "bool" = none
  fd_is_integer : ∃ fd, FunD K "is_integer" "is_integer" (defArgs (top 13)) (defBody (top 13)) (defScope (top 13)) [] [] (He.fAd K ("is_integer", none)) fd
  g_is_integer : mg "is_integer" = some (.ref (He.ga K "is_integer"))
  fd_is_between : ∃ fd, FunD K "is_between" "is_between" (defArgs (top 14)) (defBody (top 14)) (defScope (top 14)) [] [] (He.fAd K ("is_between", none)) fd
  fd_is_number : ∃ fd, FunD K "is_number" "is_number" (defArgs (top 15)) (defBody (top 15)) (defScope (top 15)) [] [] (He.fAd K ("is_number", none)) fd
  n_str : mg "str" = none
  n_len : mg "len" = none
  n_all : mg "all" = none
  c_LETTERS : ∃ u, mg "LETTERS" = some u ∧ RelV (.str "abcdefghijklmnopqrstuvwxyz") u
  fd_is_name : ∃ fd, FunD K "is_name" "is_name" (defArgs (top 16)) (defBody (top 16)) (defScope (top 16)) [] [] (He.fAd K ("is_name", none)) fd
  n_range : mg "range" = none
  fd_is_ascending : ∃ fd, FunD K "is_ascending" "is_ascending" (defArgs (top 17)) (defBody (top 17)) (defScope (top 17)) [] [] (He.fAd K ("is_ascending", none)) fd
  n_tuple : mg "tuple" = none
  g_is_name : mg "is_name" = some (.ref (He.ga K "is_name"))
  g_is_ascending : mg "is_ascending" = some (.ref (He.ga K "is_ascending"))
  fd_is_names : ∃ fd, FunD K "is_names" "is_names" (defArgs (top 18)) (defBody (top 18)) (defScope (top 18)) [] [] (He.fAd K ("is_names", none)) fd
  g_is_number : mg "is_number" = some (.ref (He.ga K "is_number"))
  fd_is_numbers : ∃ fd, FunD K "is_numbers" "is_numbers" (defArgs (top 19)) (defBody (top 19)) (defScope (top 19)) [] [] (He.fAd K ("is_numbers", none)) fd
  c_MOST_DAYS : ∃ u, mg "MOST_DAYS" = some u ∧ RelV (.int 7) u
  g_is_between : mg "is_between" = some (.ref (He.ga K "is_between"))
  c_MOST_PERIODS : ∃ u, mg "MOST_PERIODS" = some u ∧ RelV (.int 12) u
  cls_Week : Cls K (He.ga K "Week")
  na_Week_days : NoAttr K (He.ga K "Week") "days"
  na_Week_periods : NoAttr K (He.ga K "Week") "periods"
  fd_Week_init : ∃ fd, FunD K "__init__" "Week.__init__" (defArgs (inClass (top 20) 0)) (defBody (inClass (top 20) 0)) (defScope (inClass (top 20) 0)) [] [] (He.fAd K ("Week", some "__init__")) fd
  fd_Week_has : ∃ fd, FunD K "has" "Week.has" (defArgs (inClass (top 20) 2)) (defBody (inClass (top 20) 2)) (defScope (inClass (top 20) 2)) [] [] (He.fAd K ("Week", some "has")) fd
  g_is_numbers : mg "is_numbers" = some (.ref (He.ga K "is_numbers"))
  me_Week_has : Meth K (He.ga K "Week") "has" (He.ma K (He.ga K "Week") "has")
  fd_is_slots : ∃ fd, FunD K "is_slots" "is_slots" (defArgs (top 21)) (defBody (top 21)) (defScope (top 21)) [] [] (He.fAd K ("is_slots", none)) fd
  fd_is_laid : ∃ fd, FunD K "is_laid" "is_laid" (defArgs (top 23)) (defBody (top 23)) (defScope (top 23)) [] [] (He.fAd K ("is_laid", none)) fd
  g_is_laid : mg "is_laid" = some (.ref (He.ga K "is_laid"))
  fd_is_timetable : ∃ fd, FunD K "is_timetable" "is_timetable" (defArgs (top 24)) (defBody (top 24)) (defScope (top 24)) [] [] (He.fAd K ("is_timetable", none)) fd
  g_is_timetable : mg "is_timetable" = some (.ref (He.ga K "is_timetable"))
  cls_Book : Cls K (He.ga K "Book")
  na_Book_lessons : NoAttr K (He.ga K "Book") "lessons"
  cls_Room : Cls K (He.ga K "Room")
  na_Room_name : NoAttr K (He.ga K "Room") "name"
  cls_Person : Cls K (He.ga K "Person")
  na_Person_name : NoAttr K (He.ga K "Person") "name"
  cls_Lesson : Cls K (He.ga K "Lesson")
  na_Lesson_name : NoAttr K (He.ga K "Lesson") "name"
  fd_check_whole : ∃ fd, FunD K "check_whole" "check_whole" (defArgs (top 26)) (defBody (top 26)) (defScope (top 26)) [] [] (He.fAd K ("check_whole", none)) fd
  fd_gone_to : ∃ fd, FunD K "gone_to" "gone_to" (defArgs (top 27)) (defBody (top 27)) (defScope (top 27)) [] [] (He.fAd K ("gone_to", none)) fd
  g_check_whole : mg "check_whole" = some (.ref (He.ga K "check_whole"))
  n_zip : mg "zip" = none
  g_gone_to : mg "gone_to" = some (.ref (He.ga K "gone_to"))
  fd_merged : ∃ fd, FunD K "merged" "merged" (defArgs (top 28)) (defBody (top 28)) (defScope (top 28)) [] [] (He.fAd K ("merged", none)) fd
  fd_unlike_in : ∃ fd, FunD K "unlike_in" "unlike_in" (defArgs (top 29)) (defBody (top 29)) (defScope (top 29)) [] [] (He.fAd K ("unlike_in", none)) fd
  c_MOST_SEATS : ∃ u, mg "MOST_SEATS" = some u ∧ RelV (.int 999) u
  c_MOST_KINDS : ∃ u, mg "MOST_KINDS" = some u ∧ RelV (.int 6) u
  g_is_names : mg "is_names" = some (.ref (He.ga K "is_names"))
  na_Room_seats : NoAttr K (He.ga K "Room") "seats"
  na_Lesson_seats : NoAttr K (He.ga K "Lesson") "seats"
  na_Room_kinds : NoAttr K (He.ga K "Room") "kinds"
  na_Lesson_kinds : NoAttr K (He.ga K "Lesson") "kinds"
  na_Room_closed : NoAttr K (He.ga K "Room") "closed"
  fd_Room_init : ∃ fd, FunD K "__init__" "Room.__init__" (defArgs (inClass (top 42) 0)) (defBody (inClass (top 42) 0)) (defScope (inClass (top 42) 0)) [] [] (He.fAd K ("Room", some "__init__")) fd
  c_MOST_A_DAY : ∃ u, mg "MOST_A_DAY" = some u ∧ RelV (.int 12) u
  na_Person_absent : NoAttr K (He.ga K "Person") "absent"
  na_Person_most : NoAttr K (He.ga K "Person") "most"
  fd_Person_init : ∃ fd, FunD K "__init__" "Person.__init__" (defArgs (inClass (top 43) 0)) (defBody (inClass (top 43) 0)) (defScope (inClass (top 43) 0)) [] [] (He.fAd K ("Person", some "__init__")) fd
  c_MOST_LENGTH : ∃ u, mg "MOST_LENGTH" = some u ∧ RelV (.int 4) u
  c_MOST_IN_LESSON : ∃ u, mg "MOST_IN_LESSON" = some u ∧ RelV (.int 8) u
  na_Lesson_length : NoAttr K (He.ga K "Lesson") "length"
  na_Lesson_people : NoAttr K (He.ga K "Lesson") "people"
  na_Book_people : NoAttr K (He.ga K "Book") "people"
  na_Lesson_starts : NoAttr K (He.ga K "Lesson") "starts"
  fd_Lesson_init : ∃ fd, FunD K "__init__" "Lesson.__init__" (defArgs (inClass (top 44) 0)) (defBody (inClass (top 44) 0)) (defScope (inClass (top 44) 0)) [] [] (He.fAd K ("Lesson", some "__init__")) fd
  c_MOST_TOLD : ∃ u, mg "MOST_TOLD" = some u ∧ RelV (.int 6) u
  c_PAIRS : (∃ u, mg "PAIRS" = some u ∧ RelV (.ref (He.ga K "PAIRS")) u) ∧ ∀ H, SqT K H (He.ga K "PAIRS") [.str "apart", .str "same", .str "ahead", .str "together", .str "next"]
  fd_is_rule : ∃ fd, FunD K "is_rule" "is_rule" (defArgs (top 45)) (defBody (top 45)) (defScope (top 45)) [] [] (He.fAd K ("is_rule", none)) fd
  fd_names_of : ∃ fd, FunD K "names_of" "names_of" (defArgs (top 46)) (defBody (top 46)) (defScope (top 46)) [] [] (He.fAd K ("names_of", none)) fd
  fd_is_behind : ∃ fd, FunD K "is_behind" "is_behind" (defArgs (top 47)) (defBody (top 47)) (defScope (top 47)) [] [] (He.fAd K ("is_behind", none)) fd
  ins_Week : InsF K (He.ga K "Week")
  ko_Week_Week : PySem.W.kitOne K (.ref (He.ga K "Week")) (.ref (He.ga K "Week")) = some true
  kt_Week : ∀ t : Ty0, PySem.W.kitOne K (.type t.nm) (.ref (He.ga K "Week")) = some false
  g_Week : mg "Week" = some (.ref (He.ga K "Week"))
  c_MOST_ROOMS : ∃ u, mg "MOST_ROOMS" = some u ∧ RelV (.int 12) u
  n_enumerate : mg "enumerate" = none
  ins_Room : InsF K (He.ga K "Room")
  ko_Room_Room : PySem.W.kitOne K (.ref (He.ga K "Room")) (.ref (He.ga K "Room")) = some true
  kt_Room : ∀ t : Ty0, PySem.W.kitOne K (.type t.nm) (.ref (He.ga K "Room")) = some false
  g_Room : mg "Room" = some (.ref (He.ga K "Room"))
  g_is_slots : mg "is_slots" = some (.ref (He.ga K "is_slots"))
  g_is_behind : mg "is_behind" = some (.ref (He.ga K "is_behind"))
  c_MOST_PEOPLE : ∃ u, mg "MOST_PEOPLE" = some u ∧ RelV (.int 30) u
  ins_Person : InsF K (He.ga K "Person")
  ko_Person_Person : PySem.W.kitOne K (.ref (He.ga K "Person")) (.ref (He.ga K "Person")) = some true
  kt_Person : ∀ t : Ty0, PySem.W.kitOne K (.type t.nm) (.ref (He.ga K "Person")) = some false
  g_Person : mg "Person" = some (.ref (He.ga K "Person"))
  na_Book_week : NoAttr K (He.ga K "Book") "week"
  na_Book_rooms : NoAttr K (He.ga K "Book") "rooms"
  na_Book_room_named : NoAttr K (He.ga K "Book") "room_named"
  na_Book_person_named : NoAttr K (He.ga K "Book") "person_named"
  me_Book_put_lessons : Meth K (He.ga K "Book") "put_lessons" (He.ma K (He.ga K "Book") "put_lessons")
  me_Book_put_rules : Meth K (He.ga K "Book") "put_rules" (He.ma K (He.ga K "Book") "put_rules")
  fd_Book_init : ∃ fd, FunD K "__init__" "Book.__init__" (defArgs (inClass (top 48) 0)) (defBody (inClass (top 48) 0)) (defScope (inClass (top 48) 0)) [] [] (He.fAd K ("Book", some "__init__")) fd
  c_MOST_LESSONS : ∃ u, mg "MOST_LESSONS" = some u ∧ RelV (.int 24) u
  ins_Lesson : InsF K (He.ga K "Lesson")
  ko_Lesson_Lesson : PySem.W.kitOne K (.ref (He.ga K "Lesson")) (.ref (He.ga K "Lesson")) = some true
  kt_Lesson : ∀ t : Ty0, PySem.W.kitOne K (.type t.nm) (.ref (He.ga K "Lesson")) = some false
  g_Lesson : mg "Lesson" = some (.ref (He.ga K "Lesson"))
  na_Book_lesson_named : NoAttr K (He.ga K "Book") "lesson_named"
  fd_Book_put_lessons : ∃ fd, FunD K "put_lessons" "Book.put_lessons" (defArgs (inClass (top 48) 1)) (defBody (inClass (top 48) 1)) (defScope (inClass (top 48) 1)) [] [] (He.fAd K ("Book", some "put_lessons")) fd
  c_MOST_RULES : ∃ u, mg "MOST_RULES" = some u ∧ RelV (.int 40) u
  g_is_rule : mg "is_rule" = some (.ref (He.ga K "is_rule"))
  g_names_of : mg "names_of" = some (.ref (He.ga K "names_of"))
  na_Book_rules : NoAttr K (He.ga K "Book") "rules"
  fd_Book_put_rules : ∃ fd, FunD K "put_rules" "Book.put_rules" (defArgs (inClass (top 48) 2)) (defBody (inClass (top 48) 2)) (defScope (inClass (top 48) 2)) [] [] (He.fAd K ("Book", some "put_rules")) fd
  n_abs : mg "abs" = none
  fd_law_hand : ∃ fd, FunD K "_law_hand" "_law_hand" (defArgs (top 50)) (defBody (top 50)) (defScope (top 50)) [] [] (He.fAd K ("_law_hand", none)) fd
  fd_law_draw : ∃ fd, FunD K "_law_draw" "_law_draw" (defArgs (top 51)) (defBody (top 51)) (defScope (top 51)) [] [] (He.fAd K ("_law_draw", none)) fd
  g__law_draw : mg "_law_draw" = some (.ref (He.ga K "_law_draw"))
  fd_law_any : ∃ fd, FunD K "_law_any" "_law_any" (defArgs (top 52)) (defBody (top 52)) (defScope (top 52)) [] [] (He.fAd K ("_law_any", none)) fd
  n_list : mg "list" = none
  g__law_is : mg "_law_is" = some (.ref (He.ga K "_law_is"))
  fd_law_is : ∃ fd, FunD K "_law_is" "_law_is" (defArgs (top 53)) (defBody (top 53)) (defScope (top 53)) [] [] (He.fAd K ("_law_is", none)) fd
  fd_law_some : ∃ fd, FunD K "_law_some" "_law_some" (defArgs (top 54)) (defBody (top 54)) (defScope (top 54)) [] [] (He.fAd K ("_law_some", none)) fd
  g__law_any : mg "_law_any" = some (.ref (He.ga K "_law_any"))
  n_sorted : mg "sorted" = none
  n_set : mg "set" = none
  fd_law_rule : ∃ fd, FunD K "_law_rule" "_law_rule" (defArgs (top 55)) (defBody (top 55)) (defScope (top 55)) [] [] (He.fAd K ("_law_rule", none)) fd
  g__law_some : mg "_law_some" = some (.ref (He.ga K "_law_some"))
  g__law_rule : mg "_law_rule" = some (.ref (He.ga K "_law_rule"))
  fd_law_drawn : ∃ fd, FunD K "_law_drawn" "_law_drawn" (defArgs (top 56)) (defBody (top 56)) (defScope (top 56)) [] [] (He.fAd K ("_law_drawn", none)) fd
  mk_Room : Mk K (He.ga K "Room") (He.ma K (He.ga K "Room") "__init__")
  mk_Person : Mk K (He.ga K "Person") (He.ma K (He.ga K "Person") "__init__")
  mk_Lesson : Mk K (He.ga K "Lesson") (He.ma K (He.ga K "Lesson") "__init__")
  mk_Week : Mk K (He.ga K "Week") (He.ma K (He.ga K "Week") "__init__")
  mk_Book : Mk K (He.ga K "Book") (He.ma K (He.ga K "Book") "__init__")
  g_Book : mg "Book" = some (.ref (He.ga K "Book"))
  fd_law_book : ∃ fd, FunD K "_law_book" "_law_book" (defArgs (top 57)) (defBody (top 57)) (defScope (top 57)) [] [] (He.fAd K ("_law_book", none)) fd
  fd_law_row : ∃ fd, FunD K "_law_row" "_law_row" (defArgs (top 59)) (defBody (top 59)) (defScope (top 59)) [] [] (He.fAd K ("_law_row", none)) fd
  fd_law_due : ∃ fd, FunD K "_law_due" "_law_due" (defArgs (top 60)) (defBody (top 60)) (defScope (top 60)) [] [] (He.fAd K ("_law_due", none)) fd
  fd_law_unlike : ∃ fd, FunD K "_law_unlike" "_law_unlike" (defArgs (top 61)) (defBody (top 61)) (defScope (top 61)) [] [] (He.fAd K ("_law_unlike", none)) fd
  g__law_due : mg "_law_due" = some (.ref (He.ga K "_law_due"))
  g_merged : mg "merged" = some (.ref (He.ga K "merged"))
  g_unlike_in : mg "unlike_in" = some (.ref (He.ga K "unlike_in"))
  g__law_unlike : mg "_law_unlike" = some (.ref (He.ga K "_law_unlike"))
  fd_law_three_right : ∃ fd, FunD K "_law_three_right" "_law_three_right" (defArgs (top 62)) (defBody (top 62)) (defScope (top 62)) [] [] (He.fAd K ("_law_three_right", none)) fd
  g__law_word : mg "_law_word" = some (.ref (He.ga K "_law_word"))
  fd_law_refused : ∃ fd, FunD K "_law_refused" "_law_refused" (defArgs (top 63)) (defBody (top 63)) (defScope (top 63)) [] [] (He.fAd K ("_law_refused", none)) fd
  g__law_hand : mg "_law_hand" = some (.ref (He.ga K "_law_hand"))
  g__law_drawn : mg "_law_drawn" = some (.ref (He.ga K "_law_drawn"))
  g__law_book : mg "_law_book" = some (.ref (He.ga K "_law_book"))
  g__law_row : mg "_law_row" = some (.ref (He.ga K "_law_row"))
  g__law_three_right : mg "_law_three_right" = some (.ref (He.ga K "_law_three_right"))
  g__law_refused : mg "_law_refused" = some (.ref (He.ga K "_law_refused"))
  fd_law : ∃ fd, FunD K "law" "law" (defArgs (top 64)) (defBody (top 64)) (defScope (top 64)) [] [] (He.fAd K ("law", none)) fd
  tb_law_refused : LamX.TabB base mg (He.codeOf K ("_law_refused", none)) (He.tabOf K (He.codeOf K ("_law_refused", none)))
  g_HourError : mg "HourError" = some (.ref (He.ga K "HourError"))
  g_law_word : mg "_law_word" = some (.ref (He.ga K "_law_word"))
  exm_NT : PySem.W.exmOne K (.ref (He.ga K "NoTimetable")) (.ref (He.ga K "HourError")) = some true
  exc_NT : ExcC K (He.ga K "NoTimetable")
  kx_NT : PySem.W.kitOne K (.ref (He.ga K "NoTimetable")) (.ref (He.ga K "NoTimetable")) = some true
  kv_NT : PySem.W.kitOne K (.ref (He.ga K "NoTimetable")) (.type "ValueError") = some true
  fd_law_word : ∃ fd, FunD K "_law_word" "_law_word" (defArgs (top 58)) (defBody (top 58)) (defScope (top 58)) [] [] (He.fAd K ("_law_word", none)) fd
  fd_HourError_init : ∃ fd, FunD K "__init__" "HourError.__init__" (defArgs (inClass (top 2) 0)) (defBody (inClass (top 2) 0)) (defScope (inClass (top 2) 0)) [] [] (He.fAd K ("HourError", some "__init__")) fd
  n_ValueError : mg "ValueError" = none
  vV : PySem.W.findCls K (.type "ValueError") (.type "type") "__init__" = some (.val (.builtin "ValueError.__init__"))
  g_NoTimetable : mg "NoTimetable" = some (.ref (He.ga K "NoTimetable"))
  ox_NoTimetable : OexC K (He.ga K "NoTimetable")
  in_NoTimetable : PySem.W.findIn K (.ref (He.ga K "NoTimetable")) "__init__" = some (some (.ref (He.fAd K ("HourError", some "__init__"))))
  ty_HourError : PySem.W.typeIn K (.ref (He.fAd K ("HourError", some "__init__"))) = some (.type "function")
section
variable {P : Program} {w : World} {K : PySem.W.Frag} {mg : Str → Option Value} {base : Heap} {tabs : List (Addr × Str)}
theorem fl_days (F : Fx P w K mg base) : ∀ c ∈ (["Week"] : List Str), Cls K (cA K c) ∧ NoAttr K (cA K c) "days" := fun c h => by
  simp only [List.mem_cons, List.not_mem_nil, or_false] at h
  rw [h]
  exact ⟨F.cls_Week, F.na_Week_days⟩
theorem fl_periods (F : Fx P w K mg base) : ∀ c ∈ (["Week"] : List Str), Cls K (cA K c) ∧ NoAttr K (cA K c) "periods" := fun c h => by
  simp only [List.mem_cons, List.not_mem_nil, or_false] at h
  rw [h]
  exact ⟨F.cls_Week, F.na_Week_periods⟩
theorem fl_name (F : Fx P w K mg base) : ∀ c ∈ (["Room", "Person", "Lesson"] : List Str), Cls K (cA K c) ∧ NoAttr K (cA K c) "name" := fun c h => by
  simp only [List.mem_cons, List.not_mem_nil, or_false] at h
  rcases h with rfl | rfl | rfl
  · exact ⟨F.cls_Room, F.na_Room_name⟩
  · exact ⟨F.cls_Person, F.na_Person_name⟩
  · exact ⟨F.cls_Lesson, F.na_Lesson_name⟩
theorem fl_seats (F : Fx P w K mg base) : ∀ c ∈ (["Room", "Lesson"] : List Str), Cls K (cA K c) ∧ NoAttr K (cA K c) "seats" := fun c h => by
  simp only [List.mem_cons, List.not_mem_nil, or_false] at h
  rcases h with rfl | rfl
  · exact ⟨F.cls_Room, F.na_Room_seats⟩
  · exact ⟨F.cls_Lesson, F.na_Lesson_seats⟩
theorem fl_kinds (F : Fx P w K mg base) : ∀ c ∈ (["Room", "Lesson"] : List Str), Cls K (cA K c) ∧ NoAttr K (cA K c) "kinds" := fun c h => by
  simp only [List.mem_cons, List.not_mem_nil, or_false] at h
  rcases h with rfl | rfl
  · exact ⟨F.cls_Room, F.na_Room_kinds⟩
  · exact ⟨F.cls_Lesson, F.na_Lesson_kinds⟩
theorem fl_closed (F : Fx P w K mg base) : ∀ c ∈ (["Room"] : List Str), Cls K (cA K c) ∧ NoAttr K (cA K c) "closed" := fun c h => by
  simp only [List.mem_cons, List.not_mem_nil, or_false] at h
  rw [h]
  exact ⟨F.cls_Room, F.na_Room_closed⟩
theorem fl_absent (F : Fx P w K mg base) : ∀ c ∈ (["Person"] : List Str), Cls K (cA K c) ∧ NoAttr K (cA K c) "absent" := fun c h => by
  simp only [List.mem_cons, List.not_mem_nil, or_false] at h
  rw [h]
  exact ⟨F.cls_Person, F.na_Person_absent⟩
theorem fl_most (F : Fx P w K mg base) : ∀ c ∈ (["Person"] : List Str), Cls K (cA K c) ∧ NoAttr K (cA K c) "most" := fun c h => by
  simp only [List.mem_cons, List.not_mem_nil, or_false] at h
  rw [h]
  exact ⟨F.cls_Person, F.na_Person_most⟩
theorem fl_length (F : Fx P w K mg base) : ∀ c ∈ (["Lesson"] : List Str), Cls K (cA K c) ∧ NoAttr K (cA K c) "length" := fun c h => by
  simp only [List.mem_cons, List.not_mem_nil, or_false] at h
  rw [h]
  exact ⟨F.cls_Lesson, F.na_Lesson_length⟩
theorem fl_people (F : Fx P w K mg base) : ∀ c ∈ (["Lesson", "Book"] : List Str), Cls K (cA K c) ∧ NoAttr K (cA K c) "people" := fun c h => by
  simp only [List.mem_cons, List.not_mem_nil, or_false] at h
  rcases h with rfl | rfl
  · exact ⟨F.cls_Lesson, F.na_Lesson_people⟩
  · exact ⟨F.cls_Book, F.na_Book_people⟩
theorem fl_starts (F : Fx P w K mg base) : ∀ c ∈ (["Lesson"] : List Str), Cls K (cA K c) ∧ NoAttr K (cA K c) "starts" := fun c h => by
  simp only [List.mem_cons, List.not_mem_nil, or_false] at h
  rw [h]
  exact ⟨F.cls_Lesson, F.na_Lesson_starts⟩
theorem fl_week (F : Fx P w K mg base) : ∀ c ∈ (["Book"] : List Str), Cls K (cA K c) ∧ NoAttr K (cA K c) "week" := fun c h => by
  simp only [List.mem_cons, List.not_mem_nil, or_false] at h
  rw [h]
  exact ⟨F.cls_Book, F.na_Book_week⟩
theorem fl_rooms (F : Fx P w K mg base) : ∀ c ∈ (["Book"] : List Str), Cls K (cA K c) ∧ NoAttr K (cA K c) "rooms" := fun c h => by
  simp only [List.mem_cons, List.not_mem_nil, or_false] at h
  rw [h]
  exact ⟨F.cls_Book, F.na_Book_rooms⟩
theorem fl_room_named (F : Fx P w K mg base) : ∀ c ∈ (["Book"] : List Str), Cls K (cA K c) ∧ NoAttr K (cA K c) "room_named" := fun c h => by
  simp only [List.mem_cons, List.not_mem_nil, or_false] at h
  rw [h]
  exact ⟨F.cls_Book, F.na_Book_room_named⟩
theorem fl_person_named (F : Fx P w K mg base) : ∀ c ∈ (["Book"] : List Str), Cls K (cA K c) ∧ NoAttr K (cA K c) "person_named" := fun c h => by
  simp only [List.mem_cons, List.not_mem_nil, or_false] at h
  rw [h]
  exact ⟨F.cls_Book, F.na_Book_person_named⟩
theorem fl_lessons (F : Fx P w K mg base) : ∀ c ∈ (["Book"] : List Str), Cls K (cA K c) ∧ NoAttr K (cA K c) "lessons" := fun c h => by
  simp only [List.mem_cons, List.not_mem_nil, or_false] at h
  rw [h]
  exact ⟨F.cls_Book, F.na_Book_lessons⟩
theorem fl_lesson_named (F : Fx P w K mg base) : ∀ c ∈ (["Book"] : List Str), Cls K (cA K c) ∧ NoAttr K (cA K c) "lesson_named" := fun c h => by
  simp only [List.mem_cons, List.not_mem_nil, or_false] at h
  rw [h]
  exact ⟨F.cls_Book, F.na_Book_lesson_named⟩
theorem fl_rules (F : Fx P w K mg base) : ∀ c ∈ (["Book"] : List Str), Cls K (cA K c) ∧ NoAttr K (cA K c) "rules" := fun c h => by
  simp only [List.mem_cons, List.not_mem_nil, or_false] at h
  rw [h]
  exact ⟨F.cls_Book, F.na_Book_rules⟩
theorem io_Week (F : Fx P w K mg base) : ∀ c b, ([("Week", true)] : List (Str × Bool)).lookup c = some b → InsF K (cA K c) ∧ PySem.W.kitOne K (.ref (cA K c)) (.ref (cA K "Week")) = some b := fun c b h => by
  rw [List.lookup_cons] at h
  split at h
  · rename_i e
    cases h
    rw [eq_of_beq e]
    exact ⟨F.ins_Week, F.ko_Week_Week⟩
  · cases h
theorem io_Room (F : Fx P w K mg base) : ∀ c b, ([("Room", true)] : List (Str × Bool)).lookup c = some b → InsF K (cA K c) ∧ PySem.W.kitOne K (.ref (cA K c)) (.ref (cA K "Room")) = some b := fun c b h => by
  rw [List.lookup_cons] at h
  split at h
  · rename_i e
    cases h
    rw [eq_of_beq e]
    exact ⟨F.ins_Room, F.ko_Room_Room⟩
  · cases h
theorem io_Person (F : Fx P w K mg base) : ∀ c b, ([("Person", true)] : List (Str × Bool)).lookup c = some b → InsF K (cA K c) ∧ PySem.W.kitOne K (.ref (cA K c)) (.ref (cA K "Person")) = some b := fun c b h => by
  rw [List.lookup_cons] at h
  split at h
  · rename_i e
    cases h
    rw [eq_of_beq e]
    exact ⟨F.ins_Person, F.ko_Person_Person⟩
  · cases h
theorem io_Lesson (F : Fx P w K mg base) : ∀ c b, ([("Lesson", true)] : List (Str × Bool)).lookup c = some b → InsF K (cA K c) ∧ PySem.W.kitOne K (.ref (cA K c)) (.ref (cA K "Lesson")) = some b := fun c b h => by
  rw [List.lookup_cons] at h
  split at h
  · rename_i e
    cases h
    rw [eq_of_beq e]
    exact ⟨F.ins_Lesson, F.ko_Lesson_Lesson⟩
  · cases h
theorem ve_HourError (F : Fx P w K mg base) : ∃ fd, FnOk P w K mg base (L2.CX P w) 1 (He.fAd K ("HourError", some "__init__")) fd ["self"] (spVE K) ∧ Binds K fd ["self"] [] := by
  obtain ⟨fd, Fd⟩ := F.fd_HourError_init
  have B : Binds K fd ["self"] [] := Fd.bindsN (fun _ _ _ _ _ _ us hl => match us, hl with | [_], _ => rfl)
  obtain ⟨oc, od, dV, kV, doc, pm, an, cdv, ct, osl, rfl, lk, hcd, _, _⟩ := Fd.ex
  exact ⟨_, ve_ok lk hcd (fs_by (N := ["self"]) rfl) (fun A outer s H E => pss_one (ps_expr (pe_veinit (X := Xc P w K mg base ["self"] "HourError.__init__" (defScope (inClass (top 2) 0)) (He.fAd K ("HourError", some "__init__")) cdv A outer s H E) rfl F.n_ValueError F.vV (pa_cons (pe_var (i := 0) rfl (.inl rfl)) pa_nil)))), B⟩
theorem raise_NoTimetable {X : Cx} {k : Nat} {p pos : Pos} (F : Fx X.prog X.w X.K X.mg X.base) (hr : Room k X.A) (hk : 2 ≤ k) (hg : Gl X "NoTimetable") : PMk X (.Call (.Name "NoTimetable" p) [] [] pos) fun _ H Q => Q (.ref (cA X.K "NoTimetable")) none H := by
  obtain ⟨fd, h1, h2⟩ := ve_HourError F
  exact pmk_bare F.ox_NoTimetable F.in_NoTimetable F.ty_HourError h1 (hr.mono hk) h2 hg F.g_NoTimetable
def tabs39 (K : PySem.W.Frag) : List (Addr × Str) := [(He.tabOf K (He.codeOf K ("_law_refused", none)), "_law_refused" ++ ".<locals>." ++ "<lambda>")]
end
def wf39 (c : Str) : Option IV := if c = "NoTimetable" then some (.str "!NoTimetable") else none
section
variable {X : Cx}
abbrev Zw (X : Cx) (g : Addr) (cdg : Value) (s : Shared) (H : Hp) (a : Addr) (oe : Obj) (pn : List (Addr × Obj)) : Cx := (cxOf C8.CX0 X.prog X.w X.K X.mg X.base ["call", "found", "e", "flags"] "_law_word" (defScope (top 58)) g cdg X.A X.stack s H C8.E0).nox.suite a ((a, oe) :: pn)
/-- flags = [isinstance(e, ..)]; if flags.count(True) == 1 and isinstance(e, ValueError): found = [..][flags.index(True)] -/
def tw1 (X : Cx) (a : Addr) : TS := tSeq (tAsg (tLst (tCons (tCB (rIsE X.K (cA X.K "NoTimetable") a) (tCons (tVar 2) (tCons (tC (.ref (cA X.K "NoTimetable"))) tNil))) tNil)) (gName 3))
  (tIfS (tAnd (tTest (tOp rEq (tBM X.K "list" (rCntF X.K) (tVar 3) (tCons (tC (.bl true)) tNil)) (tC (.int 1)))) (L2.tB (tCB (rIsE X.K (cA X.K "NoTimetable") a) (tCons (tVar 2) (tCons (tC (.ty "ValueError")) tNil)))))
    (tAsg (tOp (rIx X.K) (tLst (tCons (tC (.str "!NoTimetable")) tNil)) (tBM X.K "list" (rIndex X.K) (tVar 3) (tCons (tC (.bl true)) tNil))) (gName 1)) tNext)
def su58 : List Stmt := match (defBody (top 58))[1]? with
  | some (Stmt.Try _ [ExceptHandler.ExceptHandler _ _ b _] _ _ _) => b
  | _ => []
theorem suite39 (F : Fx X.prog X.w X.K X.mg X.base) (g : Addr) (cdg : Value) (s : Shared) (H : Hp) (a : Addr) (oe : Obj) (pn : List (Addr × Obj)) (hz : Zc (.ref (cA X.K "NoTimetable")) none oe) (hd : ∃ vs, oe.data = .fields vs) : PSs (Zw X g cdg s H a oe pn) su58 (tw1 X a) := by
  have nd : (["call", "found", "e", "flags"] : List Str).Nodup := by decide
  exact pss_cons (ps_set (X := Zw X g cdg s H a oe pn) (i := 3) nd rfl (.inl rfl) (pe_lst (pa_cons (pe_callB (X := Zw X g cdg s H a oe pn) (call_isE F.exc_NT hz hd) rfl F.n_isinstance (by decide +kernel) (pa_cons (pe_var (i := 2) rfl (.inl rfl)) (pa_cons (pe_glob rfl F.g_NoTimetable rfl) pa_nil))) pa_nil)))
    (pss_one (ps_if (PW.pt (pw_and (pt_cmpR op_eq (pe_bm (X := Zw X g cdg s H a oe pn) PySem.F.plainAttrs_list PySem.F.slot_list_count PySem.F.type_list_count mt_countF (pe_var (i := 3) rfl (.inl rfl)) (pa_cons pe_bl pa_nil)) pe_int (nomark _)) (pw_and1 (pt_val (pe_callB (X := Zw X g cdg s H a oe pn) (call_isE F.exc_NT hz hd) rfl F.n_isinstance (by decide +kernel) (pa_cons (pe_var (i := 2) rfl (.inl rfl)) (pa_cons (pe_bltn (v := .ty "ValueError") rfl F.n_ValueError (by decide +kernel) rfl (by decide) (by decide)) pa_nil)))))))
      (pss_one (ps_set (i := 1) nd rfl (.inl rfl) (pe_ix ix_seq (pe_lst (pa_cons pe_str pa_nil)) (pe_bm (X := Zw X g cdg s H a oe pn) PySem.F.plainAttrs_list PySem.F.slot_list_index PySem.F.type_list_index mt_index (pe_var (i := 3) rfl (.inl rfl)) (pa_cons pe_bl pa_nil)) (fun _ _ => rfl)))) pss_nil))
theorem kit_ref {c : Addr} : ∀ u, RelV (.ref c) u → u = Value.ref c := fun u h => h
theorem use39 (F : Fx X.prog X.w X.K X.mg X.base) (a : Addr) (σ : L2.St) (H : Hp) (D : Ends) (hl : σ.length = 4) (he : σ[2]? = some (some (.ref a))) (hn : ∀ H2 σ', (∀ b o, H b = some o → H2 b = some o) → σ'.length = 4 → σ'[1]? = some (some (.str "!NoTimetable")) → D.nx σ' H2) : tw1 X a D σ H := by
  refine ⟨.ref a, he, .ref (cA X.K "NoTimetable"), _, true, rfl, kit_ref, F.kx_NT, by decide, fun p hp => ?_⟩
  have h3 : ∀ v, (σ.set 3 (some v))[3]? = some (some v) := fun v => List.getElem?_set_self (by omega)
  have h2 : ∀ v, (σ.set 3 (some v))[2]? = some (some (.ref a)) := fun v => (List.getElem?_set_ne (by decide)).trans he
  refine ⟨.ref p, h3 _, .inl ⟨rfl, [.bl true], .of upd_same⟩, p, [.bl true], .bl true, rfl, rfl, .of upd_same, rfl, rfl, rfl, true, rfl, ?_⟩
  simp only [if_true]
  refine ⟨.ref a, h2 _, .ty "ValueError", _, true, rfl, fun u h => h, F.kv_NT, true, rfl, ?_⟩
  simp only [if_true]
  refine ⟨by decide, fun p2 hp2 => ?_⟩
  have ne : p ≠ p2 := fun z => by
    rw [← z, upd_same] at hp2
    cases hp2
  have at_ : upd (upd H p (.lst [V.bl true])) p2 (.lst [V.str "!NoTimetable"]) p = some (.lst [.bl true]) := by rw [upd_ne ne, upd_same]
  refine ⟨.ref p, h3 _, .inl ⟨rfl, [.bl true], .of at_⟩, p, [.bl true], .bl true, 0, .bl true, rfl, rfl, .of at_, rfl, rfl, rfl, rfl, fun m z hm => absurd hm (Nat.not_lt_zero _), .inl ⟨p2, _, 0, .str "!NoTimetable", rfl, rfl, .of upd_same, rfl, ?_⟩⟩
  refine hn _ _ (fun b o e => ?_) (by simp [hl]) (List.getElem?_set_self (by simp [hl]))
  rw [upd_ne (ne_of_none (by rw [upd_ne (ne_of_none e hp)]; exact e) hp2), upd_ne (ne_of_none e hp)]
  exact e
theorem gives39 (F : Fx X.prog X.w X.K X.mg X.base) (q : Str) (g : Addr) (cdg : Value) : LamX.GivesTo X ["call", "found", "e", "flags"] "_law_word" (defScope (top 58)) g cdg (defBody (top 58)) "call" q (TTw X.K wf39) :=
  word_gives (ts := fun a cls d D σ H => (cls = .ref (cA X.K "NoTimetable") ∧ d = none) ∧ tw1 X a D σ H) (by decide) rfl rfl rfl rfl rfl F.g_HourError rfl rfl rfl
    (fun e l E h pp => by rcases h with rfl | rfl <;> rfl)
    (fun s H a oe cls d pn hz hd => PSs.under fun h => by
      obtain ⟨rfl, rfl⟩ := h
      exact suite39 F g cdg s H a oe pn hz hd)
    (fun c z h => by
      unfold wf39 at h
      split at h
      · rename_i e
        rw [e]
        exact F.exm_NT
      · cases h)
    (fun c z v a σ H D h hz hl he hn => by
      unfold wf39 at h
      split at h
      · rename_i e
        cases h
        cases hz
        refine ⟨⟨by rw [e], rfl⟩, use39 F a σ H D hl he hn⟩
      · cases h)
    (fun _ => rfl) (by decide)
end

section
variable {P : Program} {w : World} {K : PySem.W.Frag} {mg : Str → Option Value} {base : Heap} {tabs : List (Addr × Str)}
def m_is_integer : M Fl := (mRet (mB (mAnd (mTest (mN [(.nm 0)] (gIsT [] .int))) (mNot (mTest (mN [(.nm 0)] (gIsT [] .bool)))))))
abbrev X_is_integer (P : Program) (w : World) (K : PySem.W.Frag) (mg : Str → Option Value) (base : Heap) (cdv : Value) (A : Around) (outer : List Env) (s : Shared) (H : Hp) (E : XK) : Cx := Xc P w K mg base ["thing"] "is_integer" (defScope (top 13)) (He.fAd K ("is_integer", none)) cdv A outer s H E
theorem b_is_integer (F : Fx P w K mg base) (cdv : Value) (bor : List Addr) (A : Around) (outer : List Env) (s : Shared) (H : Hp) (E : XK) (hr : Room 0 (A.deeper (envOfC "is_integer" (defScope (top 13)) s.heap.objs.size (He.fAd K ("is_integer", none)) cdv))) :
    SB (X_is_integer P w K mg base cdv A outer s H E) ⟨tabs, bor⟩ (We E) (defBody (top 13)) m_is_integer := by
  have nd : (["thing"] : List Str).Nodup := by decide
  exact (ss_one (ss_ret (se_B (sv_and (sv_val (se_isT (n := "int") (t := .int) (cs := []) rfl (by decide) (by decide) (fun _ z => nomatch z) rfl F.n_isinstance rfl F.n_int (so_nm (i := 0) rfl (.inl rfl)))) (sv_one (sv_not (sv_val (se_isT (n := "bool") (t := .bool) (cs := []) rfl (by decide) (by decide) (fun _ z => nomatch z) rfl F.n_isinstance rfl F.n_bool (so_nm (i := 0) rfl (.inl rfl))))))))))
def f_is_integer : Fn := mkFn 1 1 m_is_integer
theorem ok_is_integer (F : Fx P w K mg base) : Df P w K mg base tabs 1 (He.fAd K ("is_integer", none)) ["thing"] f_is_integer := df_of F.fd_is_integer (fs_by rfl) rfl rfl (fun _ _ _ _ _ _ us hl => match us, hl with | [_], _ => rfl) (b_is_integer F)
def m_is_between : M Fl := (mRet (mB (mAnd (mTest (mCall (f_is_integer) [(.nm 0)])) (mTest (mChain (fun i j => decide (i ≤ j)) (fun i j => decide (i ≤ j)) (.nm 1) (.nm 0) (.nm 2))))))
abbrev X_is_between (P : Program) (w : World) (K : PySem.W.Frag) (mg : Str → Option Value) (base : Heap) (cdv : Value) (A : Around) (outer : List Env) (s : Shared) (H : Hp) (E : XK) : Cx := Xc P w K mg base ["thing", "least", "most"] "is_between" (defScope (top 14)) (He.fAd K ("is_between", none)) cdv A outer s H E
theorem b_is_between (F : Fx P w K mg base) (cdv : Value) (bor : List Addr) (A : Around) (outer : List Env) (s : Shared) (H : Hp) (E : XK) (hr : Room 1 (A.deeper (envOfC "is_between" (defScope (top 14)) s.heap.objs.size (He.fAd K ("is_between", none)) cdv))) :
    SB (X_is_between P w K mg base cdv A outer s H E) ⟨tabs, bor⟩ (We E) (defBody (top 14)) m_is_between := by
  have nd : (["thing", "least", "most"] : List Str).Nodup := by decide
  exact (ss_one (ss_ret (se_B (sv_and (sv_val (sd_call (ok_is_integer F) (hr.mono (by decide)) rfl F.g_is_integer cx_takes (sa_cons (so_nm (i := 0) rfl (.inl rfl)) sa_nil))) (sv_one (sv_val (se_chain (f := (fun i j => decide (i ≤ j))) (f' := (fun i j => decide (i ≤ j))) op_le op_le (so_nm (i := 1) rfl (.inl rfl)) (so_nm (i := 0) rfl (.inl rfl)) (so_nm (i := 2) rfl (.inl rfl)))))))))
def f_is_between : Fn := mkFn 3 3 m_is_between
theorem ok_is_between (F : Fx P w K mg base) : Df P w K mg base tabs 2 (He.fAd K ("is_between", none)) ["thing", "least", "most"] f_is_between := df_of F.fd_is_between (fs_by rfl) rfl rfl (fun _ _ _ _ _ _ us hl => match us, hl with | [_, _, _], _ => rfl) (b_is_between F)
def m_is_number : M Fl := (mRet (mB (mAnd (mTest (mCall (f_is_integer) [(.nm 0)])) (mTest (mN [(.nm 0), (.ex (mC (.int 0)))] (gI2 fun i j => .bl (decide (j ≤ i))))))))
abbrev X_is_number (P : Program) (w : World) (K : PySem.W.Frag) (mg : Str → Option Value) (base : Heap) (cdv : Value) (A : Around) (outer : List Env) (s : Shared) (H : Hp) (E : XK) : Cx := Xc P w K mg base ["thing"] "is_number" (defScope (top 15)) (He.fAd K ("is_number", none)) cdv A outer s H E
theorem b_is_number (F : Fx P w K mg base) (cdv : Value) (bor : List Addr) (A : Around) (outer : List Env) (s : Shared) (H : Hp) (E : XK) (hr : Room 1 (A.deeper (envOfC "is_number" (defScope (top 15)) s.heap.objs.size (He.fAd K ("is_number", none)) cdv))) :
    SB (X_is_number P w K mg base cdv A outer s H E) ⟨tabs, bor⟩ (We E) (defBody (top 15)) m_is_number := by
  have nd : (["thing"] : List Str).Nodup := by decide
  exact (ss_one (ss_ret (se_B (sv_and (sv_val (sd_call (ok_is_integer F) (hr.mono (by decide)) rfl F.g_is_integer cx_takes (sa_cons (so_nm (i := 0) rfl (.inl rfl)) sa_nil))) (sv_one (sv_val (se_ge (so_nm (i := 0) rfl (.inl rfl)) (so_ex se_int))))))))
def f_is_number : Fn := mkFn 1 1 m_is_number
theorem ok_is_number (F : Fx P w K mg base) : Df P w K mg base tabs 2 (He.fAd K ("is_number", none)) ["thing"] f_is_number := df_of F.fd_is_number (fs_by rfl) rfl rfl (fun _ _ _ _ _ _ us hl => match us, hl with | [_], _ => rfl) (b_is_number F)
def m_is_name : M Fl := (mRet (mB (mAnd (mTest (mN [(.nm 0)] (gIsT [] .str))) (mAnd (mTest (mChain (fun i j => decide (i ≤ j)) (fun i j => decide (i ≤ j)) (.ex (mC (.int 1))) (.ex (mN [(.nm 0)] gLen)) (.ex (mC (.int 12))))) (mTest (mN [(.ex (mLc [1] (itTx (.nm 0)) (setN 1) mTrue (mN [(.nm 1), (.ex (mC (.str "abcdefghijklmnopqrstuvwxyz")))] (gInS false))))] gAll))))))
abbrev X_is_name (P : Program) (w : World) (K : PySem.W.Frag) (mg : Str → Option Value) (base : Heap) (cdv : Value) (A : Around) (outer : List Env) (s : Shared) (H : Hp) (E : XK) : Cx := Xc P w K mg base ["thing", "sign"] "is_name" (defScope (top 16)) (He.fAd K ("is_name", none)) cdv A outer s H E
theorem b_is_name (F : Fx P w K mg base) (cdv : Value) (bor : List Addr) (A : Around) (outer : List Env) (s : Shared) (H : Hp) (E : XK) (hr : Room 0 (A.deeper (envOfC "is_name" (defScope (top 16)) s.heap.objs.size (He.fAd K ("is_name", none)) cdv))) :
    SB (X_is_name P w K mg base cdv A outer s H E) ⟨tabs, bor⟩ (We E) (defBody (top 16)) m_is_name := by
  have nd : (["thing", "sign"] : List Str).Nodup := by decide
  exact (ss_one (ss_ret (se_B (sv_and (sv_val (se_isT (n := "str") (t := .str) (cs := []) rfl (by decide) (by decide) (fun _ z => nomatch z) rfl F.n_isinstance rfl F.n_str (so_nm (i := 0) rfl (.inl rfl)))) (sv_and (sv_val (se_chain (f := (fun i j => decide (i ≤ j))) (f' := (fun i j => decide (i ≤ j))) op_le op_le (so_ex se_int) (so_ex (se_len rfl F.n_len (sa_cons (so_nm (i := 0) rfl (.inl rfl)) sa_nil))) (so_ex se_int))) (sv_one (sv_val (se_all rfl rfl F.n_all (sa_cons (so_ex (se_lc rfl nd (blkOk_by (own := [("sign", 1)]) rfl) (by decide) (by decide) (si_txt (so_nm (i := 0) rfl (.inl rfl))) (fun _ _ _ _ _ => (sg_nm (i := 1) nd rfl (.inl rfl))) (fun _ _ _ _ _ => sts_nil) (fun _ _ _ _ _ => (se_inS (so_nm (i := 1) rfl (.inl rfl)) (so_ex (se_gl rfl F.c_LETTERS (fun _ _ => Rv.str))))))) sa_nil)))))))))
def f_is_name : Fn := mkFn 2 1 m_is_name
theorem ok_is_name (F : Fx P w K mg base) : Df P w K mg base tabs 1 (He.fAd K ("is_name", none)) ["thing"] f_is_name := df_of F.fd_is_name (fs_by rfl) rfl rfl (fun _ _ _ _ _ _ us hl => match us, hl with | [_], _ => rfl) (b_is_name F)
def m_is_ascending : M Fl := (mRet (mN [(.ex (mLc [1] (mN [(.ex (mC (.int 1))), (.ex (mN [(.nm 0)] gLen))] gRI2) (setN 1) mTrue (mN [(.ex (mN [(.nm 0), (.ex (mN [(.nm 1), (.ex (mC (.int 1)))] (gI2 fun i j => .int (i - j))))] gAt)), (.ex (mN [(.nm 0), (.nm 1)] gAt))] gLt)))] gAll))
abbrev X_is_ascending (P : Program) (w : World) (K : PySem.W.Frag) (mg : Str → Option Value) (base : Heap) (cdv : Value) (A : Around) (outer : List Env) (s : Shared) (H : Hp) (E : XK) : Cx := Xc P w K mg base ["things", "at"] "is_ascending" (defScope (top 17)) (He.fAd K ("is_ascending", none)) cdv A outer s H E
theorem b_is_ascending (F : Fx P w K mg base) (cdv : Value) (bor : List Addr) (A : Around) (outer : List Env) (s : Shared) (H : Hp) (E : XK) (hr : Room 0 (A.deeper (envOfC "is_ascending" (defScope (top 17)) s.heap.objs.size (He.fAd K ("is_ascending", none)) cdv))) :
    SB (X_is_ascending P w K mg base cdv A outer s H E) ⟨tabs, bor⟩ (We E) (defBody (top 17)) m_is_ascending := by
  have nd : (["things", "at"] : List Str).Nodup := by decide
  exact (ss_one (ss_ret (se_all rfl rfl F.n_all (sa_cons (so_ex (se_lc rfl nd (blkOk_by (own := [("at", 1)]) rfl) (by decide) (by decide) (si_rng2 rfl F.n_range (sa_cons (so_ex se_int) (sa_cons (so_ex (se_len rfl F.n_len (sa_cons (so_nm (i := 0) rfl (.inr (.inl rfl))) sa_nil))) sa_nil))) (fun _ _ _ _ _ => (sg_nm (i := 1) nd rfl (.inl rfl))) (fun _ _ _ _ _ => sts_nil) (fun _ _ _ _ _ => (se_lt (so_ex (se_at (fun _ _ => rfl) (so_nm (i := 0) rfl (.inr (.inl rfl))) (so_ex (se_sub (so_nm (i := 1) rfl (.inl rfl)) (so_ex se_int))))) (so_ex (se_at (fun _ _ => rfl) (so_nm (i := 0) rfl (.inr (.inl rfl))) (so_nm (i := 1) rfl (.inl rfl)))))))) sa_nil))))
def f_is_ascending : Fn := mkFn 2 1 m_is_ascending
theorem ok_is_ascending (F : Fx P w K mg base) : Df P w K mg base tabs 1 (He.fAd K ("is_ascending", none)) ["things"] f_is_ascending := df_of F.fd_is_ascending (fs_by rfl) rfl rfl (fun _ _ _ _ _ _ us hl => match us, hl with | [_], _ => rfl) (b_is_ascending F)
def m_is_names : M Fl := (mSeq (mIfS (mOr (mNot (mTest (mN [(.nm 0)] (gIsT [] .tuple)))) (mOr (mTest (mN [(.ex (mN [(.nm 0)] gLen)), (.nm 1)] (gI2 fun i j => .bl (decide (j < i))))) (mNot (mTest (mN [(.ex (mLc [2] (itS (.nm 0)) (setN 2) mTrue (mCall (f_is_name) [(.nm 2)])))] gAll))))) (mRet (mC (.bl false))) mNx)
  (mRet (mCall (f_is_ascending) [(.nm 0)])))
abbrev X_is_names (P : Program) (w : World) (K : PySem.W.Frag) (mg : Str → Option Value) (base : Heap) (cdv : Value) (A : Around) (outer : List Env) (s : Shared) (H : Hp) (E : XK) : Cx := Xc P w K mg base ["thing", "most", "name"] "is_names" (defScope (top 18)) (He.fAd K ("is_names", none)) cdv A outer s H E
theorem b_is_names (F : Fx P w K mg base) (cdv : Value) (bor : List Addr) (A : Around) (outer : List Env) (s : Shared) (H : Hp) (E : XK) (hr : Room 1 (A.deeper (envOfC "is_names" (defScope (top 18)) s.heap.objs.size (He.fAd K ("is_names", none)) cdv))) :
    SB (X_is_names P w K mg base cdv A outer s H E) ⟨tabs, bor⟩ (We E) (defBody (top 18)) m_is_names := by
  have nd : (["thing", "most", "name"] : List Str).Nodup := by decide
  exact (ss_cons (ss_if (st_bool (sw_or (st_not (st_val (se_isT (n := "tuple") (t := .tuple) (cs := []) rfl (by decide) (by decide) (fun _ z => nomatch z) rfl F.n_isinstance rfl F.n_tuple (so_nm (i := 0) rfl (.inl rfl))))) (sw_or (st_gt (so_ex (se_len rfl F.n_len (sa_cons (so_nm (i := 0) rfl (.inl rfl)) sa_nil))) (so_nm (i := 1) rfl (.inl rfl))) (sw_or1 (st_not (st_val (se_all rfl rfl F.n_all (sa_cons (so_ex (se_lc rfl nd (blkOk_by (own := [("name", 2)]) rfl) (by decide) (by decide) (si_seq (so_nm (i := 0) rfl (.inl rfl))) (fun _ _ _ _ _ => (sg_nm (i := 2) nd rfl (.inl rfl))) (fun _ _ _ _ _ => sts_nil) (fun _ _ _ _ _ => (sd_call (ok_is_name F) (hr.mono (by decide)) rfl F.g_is_name LamX.takes0 (sa_cons (so_nm (i := 2) rfl (.inl rfl)) sa_nil))))) sa_nil)))))))) (ss_one (ss_ret se_bl)) ss_nil)
  (ss_one (ss_ret (sd_call (ok_is_ascending F) (hr.mono (by decide)) rfl F.g_is_ascending cx_takes (sa_cons (so_nm (i := 0) rfl (.inl rfl)) sa_nil)))))
def f_is_names : Fn := mkFn 3 2 m_is_names
theorem ok_is_names (F : Fx P w K mg base) : Df P w K mg base tabs 2 (He.fAd K ("is_names", none)) ["thing", "most"] f_is_names := df_of F.fd_is_names (fs_by rfl) rfl rfl (fun _ _ _ _ _ _ us hl => match us, hl with | [_, _], _ => rfl) (b_is_names F)
def m_is_numbers : M Fl := (mRet (mB (mAnd (mTest (mN [(.nm 0)] (gIsT [] .tuple))) (mAnd (mTest (mN [(.ex (mLc [1] (itS (.nm 0)) (setN 1) mTrue (mCall (f_is_number) [(.nm 1)])))] gAll)) (mTest (mCall (f_is_ascending) [(.nm 0)]))))))
abbrev X_is_numbers (P : Program) (w : World) (K : PySem.W.Frag) (mg : Str → Option Value) (base : Heap) (cdv : Value) (A : Around) (outer : List Env) (s : Shared) (H : Hp) (E : XK) : Cx := Xc P w K mg base ["thing", "number"] "is_numbers" (defScope (top 19)) (He.fAd K ("is_numbers", none)) cdv A outer s H E
theorem b_is_numbers (F : Fx P w K mg base) (cdv : Value) (bor : List Addr) (A : Around) (outer : List Env) (s : Shared) (H : Hp) (E : XK) (hr : Room 2 (A.deeper (envOfC "is_numbers" (defScope (top 19)) s.heap.objs.size (He.fAd K ("is_numbers", none)) cdv))) :
    SB (X_is_numbers P w K mg base cdv A outer s H E) ⟨tabs, bor⟩ (We E) (defBody (top 19)) m_is_numbers := by
  have nd : (["thing", "number"] : List Str).Nodup := by decide
  exact (ss_one (ss_ret (se_B (sv_and (sv_val (se_isT (n := "tuple") (t := .tuple) (cs := []) rfl (by decide) (by decide) (fun _ z => nomatch z) rfl F.n_isinstance rfl F.n_tuple (so_nm (i := 0) rfl (.inl rfl)))) (sv_and (sv_val (se_all rfl rfl F.n_all (sa_cons (so_ex (se_lc rfl nd (blkOk_by (own := [("number", 1)]) rfl) (by decide) (by decide) (si_seq (so_nm (i := 0) rfl (.inl rfl))) (fun _ _ _ _ _ => (sg_nm (i := 1) nd rfl (.inl rfl))) (fun _ _ _ _ _ => sts_nil) (fun _ _ _ _ _ => (sd_call (ok_is_number F) (hr.mono (by decide)) rfl F.g_is_number LamX.takes0 (sa_cons (so_nm (i := 1) rfl (.inl rfl)) sa_nil))))) sa_nil))) (sv_one (sv_val (sd_call (ok_is_ascending F) (hr.mono (by decide)) rfl F.g_is_ascending cx_takes (sa_cons (so_nm (i := 0) rfl (.inl rfl)) sa_nil)))))))))
def f_is_numbers : Fn := mkFn 2 1 m_is_numbers
theorem ok_is_numbers (F : Fx P w K mg base) : Df P w K mg base tabs 3 (He.fAd K ("is_numbers", none)) ["thing"] f_is_numbers := df_of F.fd_is_numbers (fs_by rfl) rfl rfl (fun _ _ _ _ _ _ us hl => match us, hl with | [_], _ => rfl) (b_is_numbers F)
def m_Week_init : M Fl := (mSeq (mIfS (mNot (mTest (mCall (f_is_between) [(.nm 1), (.ex (mC (.int 1))), (.ex (mC (.int 7)))]))) mBad mNx)
  (mSeq (mIfS (mNot (mTest (mCall (f_is_between) [(.nm 2), (.ex (mC (.int 1))), (.ex (mC (.int 12)))]))) mBad mNx)
  (mSeq (mN [(.nm 1), (.nm 0)] (gSetF ["Week"] "days"))
  (mN [(.nm 2), (.nm 0)] (gSetF ["Week"] "periods")))))
abbrev X_Week_init (P : Program) (w : World) (K : PySem.W.Frag) (mg : Str → Option Value) (base : Heap) (cdv : Value) (A : Around) (outer : List Env) (s : Shared) (H : Hp) (E : XK) : Cx := Xc P w K mg base ["self", "days", "periods"] "Week.__init__" (defScope (inClass (top 20) 0)) (He.fAd K ("Week", some "__init__")) cdv A outer s H E
theorem b_Week_init (F : Fx P w K mg base) (cdv : Value) (bor : List Addr) (A : Around) (outer : List Env) (s : Shared) (H : Hp) (E : XK) (hr : Room 2 (A.deeper (envOfC "Week.__init__" (defScope (inClass (top 20) 0)) s.heap.objs.size (He.fAd K ("Week", some "__init__")) cdv))) :
    SB (X_Week_init P w K mg base cdv A outer s H E) ⟨tabs, bor⟩ (We E) (defBody (inClass (top 20) 0)) m_Week_init := by
  have nd : (["self", "days", "periods"] : List Str).Nodup := by decide
  exact (ss_cons (ss_if (st_not (st_val (sd_call (ok_is_between F) (hr.mono (by decide)) rfl F.g_is_between cx_takes (sa_cons (so_nm (i := 1) rfl (.inl rfl)) (sa_cons (so_ex se_int) (sa_cons (so_ex (se_gl rfl F.c_MOST_DAYS (fun _ _ => Rv.int))) sa_nil)))))) (ss_one ss_bad) ss_nil)
  (ss_cons (ss_if (st_not (st_val (sd_call (ok_is_between F) (hr.mono (by decide)) rfl F.g_is_between cx_takes (sa_cons (so_nm (i := 2) rfl (.inl rfl)) (sa_cons (so_ex se_int) (sa_cons (so_ex (se_gl rfl F.c_MOST_PERIODS (fun _ _ => Rv.int))) sa_nil)))))) (ss_one ss_bad) ss_nil)
  (ss_cons (ss_setF (fl_days F) (so_nm (i := 0) rfl (.inl rfl)) (so_nm (i := 1) rfl (.inl rfl)))
  (ss_one (ss_setF (fl_periods F) (so_nm (i := 0) rfl (.inl rfl)) (so_nm (i := 2) rfl (.inl rfl)))))))
def f_Week_init : Fn := mkFn 3 3 m_Week_init
theorem ok_Week_init (F : Fx P w K mg base) : Df P w K mg base tabs 3 (He.fAd K ("Week", some "__init__")) ["self", "days", "periods"] f_Week_init := df_of F.fd_Week_init (fs_by rfl) rfl rfl (fun _ _ _ _ _ _ us hl => match us, hl with | [_, _, _], _ => rfl) (b_Week_init F)
def m_Week_has : M Fl := (mRet (mChain (fun i j => decide (i ≤ j)) (fun i j => decide (i < j)) (.ex (mC (.int 0))) (.nm 1) (.ex (mN [(.ex (mN [(.nm 0)] (gFl ["Week"] "days"))), (.ex (mN [(.nm 0)] (gFl ["Week"] "periods")))] (gI2c cMul fun i j => .int (i * j))))))
abbrev X_Week_has (P : Program) (w : World) (K : PySem.W.Frag) (mg : Str → Option Value) (base : Heap) (cdv : Value) (A : Around) (outer : List Env) (s : Shared) (H : Hp) (E : XK) : Cx := Xc P w K mg base ["self", "slot"] "Week.has" (defScope (inClass (top 20) 2)) (He.fAd K ("Week", some "has")) cdv A outer s H E
theorem b_Week_has (F : Fx P w K mg base) (cdv : Value) (bor : List Addr) (A : Around) (outer : List Env) (s : Shared) (H : Hp) (E : XK) (hr : Room 0 (A.deeper (envOfC "Week.has" (defScope (inClass (top 20) 2)) s.heap.objs.size (He.fAd K ("Week", some "has")) cdv))) :
    SB (X_Week_has P w K mg base cdv A outer s H E) ⟨tabs, bor⟩ (We E) (defBody (inClass (top 20) 2)) m_Week_has := by
  have nd : (["self", "slot"] : List Str).Nodup := by decide
  exact (ss_one (ss_ret (se_chain (f := (fun i j => decide (i ≤ j))) (f' := (fun i j => decide (i < j))) op_le op_lt (so_ex se_int) (so_nm (i := 1) rfl (.inl rfl)) (so_ex (se_mul (so_ex (se_fl (fl_days F) rfl (so_nm (i := 0) rfl (.inl rfl)))) (so_ex (se_fl (fl_periods F) rfl (so_nm (i := 0) rfl (.inl rfl)))))))))
def f_Week_has : Fn := mkFn 2 2 m_Week_has
theorem ok_Week_has (F : Fx P w K mg base) : Df P w K mg base tabs 1 (He.fAd K ("Week", some "has")) ["self", "slot"] f_Week_has := df_of F.fd_Week_has (fs_by rfl) rfl rfl (fun _ _ _ _ _ _ us hl => match us, hl with | [_, _], _ => rfl) (b_Week_has F)
def m_is_slots : M Fl := (mRet (mB (mAnd (mTest (mCall (f_is_numbers) [(.nm 1)])) (mTest (mN [(.ex (mLc [2] (itS (.nm 1)) (setN 2) mTrue (mMeth "Week" "has" f_Week_has (.nm 0) [(.nm 2)])))] gAll)))))
abbrev X_is_slots (P : Program) (w : World) (K : PySem.W.Frag) (mg : Str → Option Value) (base : Heap) (cdv : Value) (A : Around) (outer : List Env) (s : Shared) (H : Hp) (E : XK) : Cx := Xc P w K mg base ["week", "thing", "slot"] "is_slots" (defScope (top 21)) (He.fAd K ("is_slots", none)) cdv A outer s H E
theorem b_is_slots (F : Fx P w K mg base) (cdv : Value) (bor : List Addr) (A : Around) (outer : List Env) (s : Shared) (H : Hp) (E : XK) (hr : Room 3 (A.deeper (envOfC "is_slots" (defScope (top 21)) s.heap.objs.size (He.fAd K ("is_slots", none)) cdv))) :
    SB (X_is_slots P w K mg base cdv A outer s H E) ⟨tabs, bor⟩ (We E) (defBody (top 21)) m_is_slots := by
  have nd : (["week", "thing", "slot"] : List Str).Nodup := by decide
  exact (ss_one (ss_ret (se_B (sv_and (sv_val (sd_call (ok_is_numbers F) (hr.mono (by decide)) rfl F.g_is_numbers cx_takes (sa_cons (so_nm (i := 1) rfl (.inl rfl)) sa_nil))) (sv_one (sv_val (se_all rfl rfl F.n_all (sa_cons (so_ex (se_lc rfl nd (blkOk_by (own := [("slot", 2)]) rfl) (by decide) (by decide) (si_seq (so_nm (i := 1) rfl (.inl rfl))) (fun _ _ _ _ _ => (sg_nm (i := 2) nd rfl (.inl rfl))) (fun _ _ _ _ _ => sts_nil) (fun _ _ _ _ _ => (sd_meth (c := "Week") F.cls_Week F.me_Week_has (ok_Week_has F) (hr.mono (by decide)) (so_nm (i := 0) rfl (.inr (.inl rfl))) (sa_cons (so_nm (i := 2) rfl (.inl rfl)) sa_nil))))) sa_nil))))))))
def f_is_slots : Fn := mkFn 3 2 m_is_slots
theorem ok_is_slots (F : Fx P w K mg base) : Df P w K mg base tabs 4 (He.fAd K ("is_slots", none)) ["week", "thing"] f_is_slots := df_of F.fd_is_slots (fs_by rfl) rfl rfl (fun _ _ _ _ _ _ us hl => match us, hl with | [_, _], _ => rfl) (b_is_slots F)
def m_is_laid : M Fl := (mSeq (mIfS (mOr (mNot (mTest (mN [(.nm 0)] (gIsT [] .tuple)))) (mTest (mN [(.ex (mN [(.nm 0)] gLen)), (.ex (mC (.int 3)))] (gEq true)))) (mRet (mC (.bl false))) mNx)
  (mRet (mB (mAnd (mTest (mCall (f_is_name) [(.ex (mN [(.nm 0), (.ex (mC (.int 0)))] gAt))])) (mAnd (mTest (mCall (f_is_number) [(.ex (mN [(.nm 0), (.ex (mC (.int 1)))] gAt))])) (mTest (mCall (f_is_name) [(.ex (mN [(.nm 0), (.ex (mC (.int 2)))] gAt))])))))))
abbrev X_is_laid (P : Program) (w : World) (K : PySem.W.Frag) (mg : Str → Option Value) (base : Heap) (cdv : Value) (A : Around) (outer : List Env) (s : Shared) (H : Hp) (E : XK) : Cx := Xc P w K mg base ["thing"] "is_laid" (defScope (top 23)) (He.fAd K ("is_laid", none)) cdv A outer s H E
theorem b_is_laid (F : Fx P w K mg base) (cdv : Value) (bor : List Addr) (A : Around) (outer : List Env) (s : Shared) (H : Hp) (E : XK) (hr : Room 2 (A.deeper (envOfC "is_laid" (defScope (top 23)) s.heap.objs.size (He.fAd K ("is_laid", none)) cdv))) :
    SB (X_is_laid P w K mg base cdv A outer s H E) ⟨tabs, bor⟩ (We E) (defBody (top 23)) m_is_laid := by
  have nd : (["thing"] : List Str).Nodup := by decide
  exact (ss_cons (ss_if (st_bool (sw_or (st_not (st_val (se_isT (n := "tuple") (t := .tuple) (cs := []) rfl (by decide) (by decide) (fun _ z => nomatch z) rfl F.n_isinstance rfl F.n_tuple (so_nm (i := 0) rfl (.inl rfl))))) (sw_or1 (st_ne hr.units (so_ex (se_len rfl F.n_len (sa_cons (so_nm (i := 0) rfl (.inl rfl)) sa_nil))) (so_ex se_int))))) (ss_one (ss_ret se_bl)) ss_nil)
  (ss_one (ss_ret (se_B (sv_and (sv_val (sd_call (ok_is_name F) (hr.mono (by decide)) rfl F.g_is_name cx_takes (sa_cons (so_ex (se_at (fun _ _ => rfl) (so_nm (i := 0) rfl (.inl rfl)) (so_ex se_int))) sa_nil))) (sv_and (sv_val (sd_call (ok_is_number F) (hr.mono (by decide)) rfl F.g_is_number cx_takes (sa_cons (so_ex (se_at (fun _ _ => rfl) (so_nm (i := 0) rfl (.inl rfl)) (so_ex se_int))) sa_nil))) (sv_one (sv_val (sd_call (ok_is_name F) (hr.mono (by decide)) rfl F.g_is_name cx_takes (sa_cons (so_ex (se_at (fun _ _ => rfl) (so_nm (i := 0) rfl (.inl rfl)) (so_ex se_int))) sa_nil))))))))))
def f_is_laid : Fn := mkFn 1 1 m_is_laid
theorem ok_is_laid (F : Fx P w K mg base) : Df P w K mg base tabs 3 (He.fAd K ("is_laid", none)) ["thing"] f_is_laid := df_of F.fd_is_laid (fs_by rfl) rfl rfl (fun _ _ _ _ _ _ us hl => match us, hl with | [_], _ => rfl) (b_is_laid F)
def m_is_timetable : M Fl := (mSeq (mIfS (mOr (mNot (mTest (mN [(.nm 0)] (gIsT [] .tuple)))) (mNot (mTest (mN [(.ex (mLc [1] (itS (.nm 0)) (setN 1) mTrue (mCall (f_is_laid) [(.nm 1)])))] gAll)))) (mRet (mC (.bl false))) mNx)
  (mRet (mCall (f_is_ascending) [(.ex (mLc [1] (itS (.nm 0)) (setN 1) mTrue (mN [(.nm 1), (.ex (mC (.int 0)))] gAt)))])))
abbrev X_is_timetable (P : Program) (w : World) (K : PySem.W.Frag) (mg : Str → Option Value) (base : Heap) (cdv : Value) (A : Around) (outer : List Env) (s : Shared) (H : Hp) (E : XK) : Cx := Xc P w K mg base ["thing", "triple"] "is_timetable" (defScope (top 24)) (He.fAd K ("is_timetable", none)) cdv A outer s H E
theorem b_is_timetable (F : Fx P w K mg base) (cdv : Value) (bor : List Addr) (A : Around) (outer : List Env) (s : Shared) (H : Hp) (E : XK) (hr : Room 3 (A.deeper (envOfC "is_timetable" (defScope (top 24)) s.heap.objs.size (He.fAd K ("is_timetable", none)) cdv))) :
    SB (X_is_timetable P w K mg base cdv A outer s H E) ⟨tabs, bor⟩ (We E) (defBody (top 24)) m_is_timetable := by
  have nd : (["thing", "triple"] : List Str).Nodup := by decide
  exact (ss_cons (ss_if (st_bool (sw_or (st_not (st_val (se_isT (n := "tuple") (t := .tuple) (cs := []) rfl (by decide) (by decide) (fun _ z => nomatch z) rfl F.n_isinstance rfl F.n_tuple (so_nm (i := 0) rfl (.inl rfl))))) (sw_or1 (st_not (st_val (se_all rfl rfl F.n_all (sa_cons (so_ex (se_lc rfl nd (blkOk_by (own := [("triple", 1)]) rfl) (by decide) (by decide) (si_seq (so_nm (i := 0) rfl (.inl rfl))) (fun _ _ _ _ _ => (sg_nm (i := 1) nd rfl (.inl rfl))) (fun _ _ _ _ _ => sts_nil) (fun _ _ _ _ _ => (sd_call (ok_is_laid F) (hr.mono (by decide)) rfl F.g_is_laid LamX.takes0 (sa_cons (so_nm (i := 1) rfl (.inl rfl)) sa_nil))))) sa_nil))))))) (ss_one (ss_ret se_bl)) ss_nil)
  (ss_one (ss_ret (sd_call (ok_is_ascending F) (hr.mono (by decide)) rfl F.g_is_ascending cx_takes (sa_cons (so_ex (se_lc rfl nd (blkOk_by (own := [("triple", 1)]) rfl) (by decide) (by decide) (si_seq (so_nm (i := 0) rfl (.inl rfl))) (fun _ _ _ _ _ => (sg_nm (i := 1) nd rfl (.inl rfl))) (fun _ _ _ _ _ => sts_nil) (fun _ _ _ _ _ => (se_at (fun _ _ => rfl) (so_nm (i := 1) rfl (.inl rfl)) (so_ex se_int))))) sa_nil)))))
def f_is_timetable : Fn := mkFn 2 1 m_is_timetable
theorem ok_is_timetable (F : Fx P w K mg base) : Df P w K mg base tabs 4 (He.fAd K ("is_timetable", none)) ["thing"] f_is_timetable := df_of F.fd_is_timetable (fs_by rfl) rfl rfl (fun _ _ _ _ _ _ us hl => match us, hl with | [_], _ => rfl) (b_is_timetable F)
def m_check_whole : M Fl := (mSeq (mIfS (mNot (mTest (mCall (f_is_timetable) [(.nm 1)]))) (mRaise "NoTimetable") mNx)
  (mIfS (mTest (mN [(.ex (mLc [2, 3, 4] (itS (.nm 1)) (setT [2, 3, 4]) mTrue (mRd 2))), (.ex (mLc [5] (itS (.ex (mN [(.nm 0)] (gFl ["Book"] "lessons")))) (setN 5) mTrue (mN [(.nm 5)] (gFl ["Room", "Person", "Lesson"] "name"))))] (gEq true))) (mRaise "NoTimetable") mNx))
abbrev X_check_whole (P : Program) (w : World) (K : PySem.W.Frag) (mg : Str → Option Value) (base : Heap) (cdv : Value) (A : Around) (outer : List Env) (s : Shared) (H : Hp) (E : XK) : Cx := Xc P w K mg base ["book", "thing", "name", "start", "room", "lesson"] "check_whole" (defScope (top 26)) (He.fAd K ("check_whole", none)) cdv A outer s H E
theorem b_check_whole (F : Fx P w K mg base) (cdv : Value) (bor : List Addr) (A : Around) (outer : List Env) (s : Shared) (H : Hp) (E : XK) (hr : Room 4 (A.deeper (envOfC "check_whole" (defScope (top 26)) s.heap.objs.size (He.fAd K ("check_whole", none)) cdv))) :
    SB (X_check_whole P w K mg base cdv A outer s H E) ⟨tabs, bor⟩ (We E) (defBody (top 26)) m_check_whole := by
  have nd : (["book", "thing", "name", "start", "room", "lesson"] : List Str).Nodup := by decide
  exact (ss_cons (ss_if (st_not (st_val (sd_call (ok_is_timetable F) (hr.mono (by decide)) rfl F.g_is_timetable cx_takes (sa_cons (so_nm (i := 1) rfl (.inl rfl)) sa_nil)))) (ss_one (ss_raise rfl cx_takes (raise_NoTimetable F hr (by decide) rfl))) ss_nil)
  (ss_one (ss_if (st_ne hr.units (so_ex (se_lc rfl nd (blkOk_by (own := [("name", 2), ("start", 3), ("room", 4)]) rfl) (by decide) (by decide) (si_seq (so_nm (i := 1) rfl (.inl rfl))) (fun _ _ _ _ _ => (sg_tup rfl (sgs_cons (i := 2) nd rfl (.inl rfl) (sgs_cons (i := 3) nd rfl (.inl rfl) (sgs_cons (i := 4) nd rfl (.inl rfl) sgs_nil))))) (fun _ _ _ _ _ => sts_nil) (fun _ _ _ _ _ => (se_rd (i := 2) rfl (.inl rfl))))) (so_ex (se_lc rfl nd (blkOk_by (own := [("lesson", 5)]) rfl) (by decide) (by decide) (si_seq (so_ex (se_fl (fl_lessons F) rfl (so_nm (i := 0) rfl (.inl rfl))))) (fun _ _ _ _ _ => (sg_nm (i := 5) nd rfl (.inl rfl))) (fun _ _ _ _ _ => sts_nil) (fun _ _ _ _ _ => (se_fl (fl_name F) rfl (so_nm (i := 5) rfl (.inl rfl))))))) (ss_one (ss_raise rfl cx_takes (raise_NoTimetable F hr (by decide) rfl))) ss_nil)))
def f_check_whole : Fn := mkFn 6 2 m_check_whole
theorem ok_check_whole (F : Fx P w K mg base) : Df P w K mg base tabs 5 (He.fAd K ("check_whole", none)) ["book", "thing"] f_check_whole := df_of F.fd_check_whole (fs_by rfl) rfl rfl (fun _ _ _ _ _ _ us hl => match us, hl with | [_, _], _ => rfl) (b_check_whole F)
def m_gone_to : M Fl := (mSeq (mIfS (mOr (mTest (mN [(.nm 1), (.nm 2)] (gEq false))) (mTest (mN [(.nm 2), (.nm 0)] (gEq false)))) (mRet (mRd 1)) mNx)
  (mRet (mIf (mTest (mN [(.nm 1), (.nm 0)] (gEq false))) (mRd 2) (mC .non))))
abbrev X_gone_to (P : Program) (w : World) (K : PySem.W.Frag) (mg : Str → Option Value) (base : Heap) (cdv : Value) (A : Around) (outer : List Env) (s : Shared) (H : Hp) (E : XK) : Cx := Xc P w K mg base ["old", "one", "other"] "gone_to" (defScope (top 27)) (He.fAd K ("gone_to", none)) cdv A outer s H E
theorem b_gone_to (F : Fx P w K mg base) (cdv : Value) (bor : List Addr) (A : Around) (outer : List Env) (s : Shared) (H : Hp) (E : XK) (hr : Room 0 (A.deeper (envOfC "gone_to" (defScope (top 27)) s.heap.objs.size (He.fAd K ("gone_to", none)) cdv))) :
    SB (X_gone_to P w K mg base cdv A outer s H E) ⟨tabs, bor⟩ (We E) (defBody (top 27)) m_gone_to := by
  have nd : (["old", "one", "other"] : List Str).Nodup := by decide
  exact (ss_cons (ss_if (st_bool (sw_or (st_eq hr.units (so_nm (i := 1) rfl (.inl rfl)) (so_nm (i := 2) rfl (.inl rfl))) (sw_or1 (st_eq hr.units (so_nm (i := 2) rfl (.inl rfl)) (so_nm (i := 0) rfl (.inl rfl)))))) (ss_one (ss_ret (se_rd (i := 1) rfl (.inl rfl)))) ss_nil)
  (ss_one (ss_ret (se_if (st_eq hr.units (so_nm (i := 1) rfl (.inl rfl)) (so_nm (i := 0) rfl (.inl rfl))) (se_rd (i := 2) rfl (.inl rfl)) se_non))))
def f_gone_to : Fn := mkFn 3 3 m_gone_to
theorem ok_gone_to (F : Fx P w K mg base) : Df P w K mg base tabs 1 (He.fAd K ("gone_to", none)) ["old", "one", "other"] f_gone_to := df_of F.fd_gone_to (fs_by rfl) rfl rfl (fun _ _ _ _ _ _ us hl => match us, hl with | [_, _, _], _ => rfl) (b_gone_to F)
def m_merged : M Fl := (mSeq (mFor (itS (.ex (mN [(.nm 1), (.nm 2), (.nm 3)] gTup))) (setN 4) (mDrop (mCall (f_check_whole) [(.nm 0), (.nm 4)])))
  (mSeq (mSet 5 (mLc [7, 8, 9] (itZ3 (.nm 1) (.nm 2) (.nm 3)) (setT [7, 8, 9]) mTrue (mCall (f_gone_to) [(.nm 7), (.nm 8), (.nm 9)])))
  (mSeq (mSet 6 (mN [(.ex (mLc [10, 11] (itZ2 (.nm 1) (.nm 5)) (setT [10, 11]) (mTest (mN [(.nm 11)] (gIsN false))) (mN [(.nm 10), (.ex (mC (.int 0)))] gAt)))] gTuple))
  (mRet (mIf (mTest (mN [(.ex (mN [(.nm 6)] gLen)), (.ex (mC (.int 0)))] (gI2 fun i j => .bl (decide (j < i))))) (mN [(.ex (mC (.str "clash"))), (.nm 6)] gTup) (mN [(.ex (mC (.str "merged"))), (.ex (mN [(.nm 5)] gTuple))] gTup))))))
abbrev X_merged (P : Program) (w : World) (K : PySem.W.Frag) (mg : Str → Option Value) (base : Heap) (cdv : Value) (A : Around) (outer : List Env) (s : Shared) (H : Hp) (E : XK) : Cx := Xc P w K mg base ["book", "base", "one", "other", "thing", "found", "names", "old", "mine", "theirs", "triple", "later"] "merged" (defScope (top 28)) (He.fAd K ("merged", none)) cdv A outer s H E
theorem b_merged (F : Fx P w K mg base) (cdv : Value) (bor : List Addr) (A : Around) (outer : List Env) (s : Shared) (H : Hp) (E : XK) (hr : Room 5 (A.deeper (envOfC "merged" (defScope (top 28)) s.heap.objs.size (He.fAd K ("merged", none)) cdv))) :
    SB (X_merged P w K mg base cdv A outer s H E) ⟨tabs, bor⟩ (We E) (defBody (top 28)) m_merged := by
  have nd : (["book", "base", "one", "other", "thing", "found", "names", "old", "mine", "theirs", "triple", "later"] : List Str).Nodup := by decide
  exact (ss_cons (ss_for (X := X_merged P w K mg base cdv A outer s H E) cx_passes rfl (si_seq (so_ex (se_tup (sa_cons (so_nm (i := 1) rfl (.inl rfl)) (sa_cons (so_nm (i := 2) rfl (.inl rfl)) (sa_cons (so_nm (i := 3) rfl (.inl rfl)) sa_nil)))))) (sg_nm (i := 4) nd rfl (.inl rfl)) (ss_one (ss_drop (sd_call (ok_check_whole F) (hr.mono (by decide)) rfl F.g_check_whole cx_takes (sa_cons (so_nm (i := 0) rfl (.inl rfl)) (sa_cons (so_nm (i := 4) rfl (.inl rfl)) sa_nil))))))
  (ss_cons (ss_setLc (i := 5) rfl nd rfl rfl (sw_true rfl rfl rfl rfl) (blkOk_by (own := [("old", 7), ("mine", 8), ("theirs", 9)]) rfl) (by decide) (by decide) (si_zip3 rfl F.n_zip (sa_cons (so_nm (i := 1) rfl (.inl rfl)) (sa_cons (so_nm (i := 2) rfl (.inl rfl)) (sa_cons (so_nm (i := 3) rfl (.inl rfl)) sa_nil)))) (fun _ _ _ _ _ => (sg_tup rfl (sgs_cons (i := 7) nd rfl (.inl rfl) (sgs_cons (i := 8) nd rfl (.inl rfl) (sgs_cons (i := 9) nd rfl (.inl rfl) sgs_nil))))) (fun _ _ _ _ _ => sts_nil) (fun _ _ _ _ _ => (sd_call (ok_gone_to F) (hr.mono (by decide)) rfl F.g_gone_to LamX.takes0 (sa_cons (so_nm (i := 7) rfl (.inl rfl)) (sa_cons (so_nm (i := 8) rfl (.inl rfl)) (sa_cons (so_nm (i := 9) rfl (.inl rfl)) sa_nil))))))
  (ss_cons (ss_set (i := 6) nd rfl (.inl rfl) (se_tuple rfl F.n_tuple (sa_cons (so_ex (se_lc rfl nd (blkOk_by (own := [("triple", 10), ("later", 11)]) rfl) (by decide) (by decide) (si_zip2 rfl F.n_zip (sa_cons (so_nm (i := 1) rfl (.inl rfl)) (sa_cons (so_nm (i := 5) rfl (.inl rfl)) sa_nil))) (fun _ _ _ _ _ => (sg_tup rfl (sgs_cons (i := 10) nd rfl (.inl rfl) (sgs_cons (i := 11) nd rfl (.inl rfl) sgs_nil)))) (fun _ _ _ _ _ => (sts_one (st_isN (so_nm (i := 11) rfl (.inl rfl))))) (fun _ _ _ _ _ => (se_at (fun _ _ => rfl) (so_nm (i := 10) rfl (.inl rfl)) (so_ex se_int))))) sa_nil)))
  (ss_one (ss_ret (se_if (st_gt (so_ex (se_len rfl F.n_len (sa_cons (so_nm (i := 6) rfl (.inl rfl)) sa_nil))) (so_ex se_int)) (se_tup (sa_cons (so_ex se_str) (sa_cons (so_nm (i := 6) rfl (.inl rfl)) sa_nil))) (se_tup (sa_cons (so_ex se_str) (sa_cons (so_ex (se_tuple rfl F.n_tuple (sa_cons (so_nm (i := 5) rfl (.inl rfl)) sa_nil))) sa_nil)))))))))
def f_merged : Fn := mkFn 12 4 m_merged
theorem ok_merged (F : Fx P w K mg base) : Df P w K mg base tabs 6 (He.fAd K ("merged", none)) ["book", "base", "one", "other"] f_merged := df_of F.fd_merged (fs_by rfl) rfl rfl (fun _ _ _ _ _ _ us hl => match us, hl with | [_, _, _, _], _ => rfl) (b_merged F)
def m_unlike_in : M Fl := (mSeq (mDrop (mCall (f_check_whole) [(.nm 0), (.nm 1)]))
  (mSeq (mDrop (mCall (f_check_whole) [(.nm 0), (.nm 2)]))
  (mRet (mN [(.ex (mLc [3, 4] (itZ2 (.nm 1) (.nm 2)) (setT [3, 4]) (mTest (mN [(.nm 3), (.nm 4)] (gEq true))) (mN [(.nm 3), (.ex (mC (.int 0)))] gAt)))] gTuple))))
abbrev X_unlike_in (P : Program) (w : World) (K : PySem.W.Frag) (mg : Str → Option Value) (base : Heap) (cdv : Value) (A : Around) (outer : List Env) (s : Shared) (H : Hp) (E : XK) : Cx := Xc P w K mg base ["book", "one", "other", "mine", "theirs"] "unlike_in" (defScope (top 29)) (He.fAd K ("unlike_in", none)) cdv A outer s H E
theorem b_unlike_in (F : Fx P w K mg base) (cdv : Value) (bor : List Addr) (A : Around) (outer : List Env) (s : Shared) (H : Hp) (E : XK) (hr : Room 5 (A.deeper (envOfC "unlike_in" (defScope (top 29)) s.heap.objs.size (He.fAd K ("unlike_in", none)) cdv))) :
    SB (X_unlike_in P w K mg base cdv A outer s H E) ⟨tabs, bor⟩ (We E) (defBody (top 29)) m_unlike_in := by
  have nd : (["book", "one", "other", "mine", "theirs"] : List Str).Nodup := by decide
  exact (ss_cons (ss_drop (sd_call (ok_check_whole F) (hr.mono (by decide)) rfl F.g_check_whole cx_takes (sa_cons (so_nm (i := 0) rfl (.inl rfl)) (sa_cons (so_nm (i := 1) rfl (.inl rfl)) sa_nil))))
  (ss_cons (ss_drop (sd_call (ok_check_whole F) (hr.mono (by decide)) rfl F.g_check_whole cx_takes (sa_cons (so_nm (i := 0) rfl (.inl rfl)) (sa_cons (so_nm (i := 2) rfl (.inl rfl)) sa_nil))))
  (ss_one (ss_ret (se_tuple rfl F.n_tuple (sa_cons (so_ex (se_lc rfl nd (blkOk_by (own := [("mine", 3), ("theirs", 4)]) rfl) (by decide) (by decide) (si_zip2 rfl F.n_zip (sa_cons (so_nm (i := 1) rfl (.inl rfl)) (sa_cons (so_nm (i := 2) rfl (.inl rfl)) sa_nil))) (fun _ _ _ _ _ => (sg_tup rfl (sgs_cons (i := 3) nd rfl (.inl rfl) (sgs_cons (i := 4) nd rfl (.inl rfl) sgs_nil)))) (fun _ _ _ _ _ => (sts_one (st_ne hr.units (so_nm (i := 3) rfl (.inl rfl)) (so_nm (i := 4) rfl (.inl rfl))))) (fun _ _ _ _ _ => (se_at (fun _ _ => rfl) (so_nm (i := 3) rfl (.inl rfl)) (so_ex se_int))))) sa_nil))))))
def f_unlike_in : Fn := mkFn 5 3 m_unlike_in
theorem ok_unlike_in (F : Fx P w K mg base) : Df P w K mg base tabs 6 (He.fAd K ("unlike_in", none)) ["book", "one", "other"] f_unlike_in := df_of F.fd_unlike_in (fs_by rfl) rfl rfl (fun _ _ _ _ _ _ us hl => match us, hl with | [_, _, _], _ => rfl) (b_unlike_in F)
def m_Room_init : M Fl := (mSeq (mIfS (mNot (mTest (mCall (f_is_name) [(.nm 1)]))) mBad mNx)
  (mSeq (mIfS (mNot (mTest (mCall (f_is_between) [(.nm 2), (.ex (mC (.int 0))), (.ex (mC (.int 999)))]))) mBad mNx)
  (mSeq (mIfS (mNot (mTest (mCall (f_is_names) [(.nm 3), (.ex (mC (.int 6)))]))) mBad mNx)
  (mSeq (mIfS (mNot (mTest (mCall (f_is_numbers) [(.nm 4)]))) mBad mNx)
  (mSeq (mN [(.nm 1), (.nm 0)] (gSetF ["Room", "Person", "Lesson"] "name"))
  (mSeq (mN [(.nm 2), (.nm 0)] (gSetF ["Room", "Lesson"] "seats"))
  (mSeq (mN [(.nm 3), (.nm 0)] (gSetF ["Room", "Lesson"] "kinds"))
  (mN [(.nm 4), (.nm 0)] (gSetF ["Room"] "closed")))))))))
abbrev X_Room_init (P : Program) (w : World) (K : PySem.W.Frag) (mg : Str → Option Value) (base : Heap) (cdv : Value) (A : Around) (outer : List Env) (s : Shared) (H : Hp) (E : XK) : Cx := Xc P w K mg base ["self", "name", "seats", "kinds", "closed"] "Room.__init__" (defScope (inClass (top 42) 0)) (He.fAd K ("Room", some "__init__")) cdv A outer s H E
theorem b_Room_init (F : Fx P w K mg base) (cdv : Value) (bor : List Addr) (A : Around) (outer : List Env) (s : Shared) (H : Hp) (E : XK) (hr : Room 3 (A.deeper (envOfC "Room.__init__" (defScope (inClass (top 42) 0)) s.heap.objs.size (He.fAd K ("Room", some "__init__")) cdv))) :
    SB (X_Room_init P w K mg base cdv A outer s H E) ⟨tabs, bor⟩ (We E) (defBody (inClass (top 42) 0)) m_Room_init := by
  have nd : (["self", "name", "seats", "kinds", "closed"] : List Str).Nodup := by decide
  exact (ss_cons (ss_if (st_not (st_val (sd_call (ok_is_name F) (hr.mono (by decide)) rfl F.g_is_name cx_takes (sa_cons (so_nm (i := 1) rfl (.inl rfl)) sa_nil)))) (ss_one ss_bad) ss_nil)
  (ss_cons (ss_if (st_not (st_val (sd_call (ok_is_between F) (hr.mono (by decide)) rfl F.g_is_between cx_takes (sa_cons (so_nm (i := 2) rfl (.inl rfl)) (sa_cons (so_ex se_int) (sa_cons (so_ex (se_gl rfl F.c_MOST_SEATS (fun _ _ => Rv.int))) sa_nil)))))) (ss_one ss_bad) ss_nil)
  (ss_cons (ss_if (st_not (st_val (sd_call (ok_is_names F) (hr.mono (by decide)) rfl F.g_is_names cx_takes (sa_cons (so_nm (i := 3) rfl (.inl rfl)) (sa_cons (so_ex (se_gl rfl F.c_MOST_KINDS (fun _ _ => Rv.int))) sa_nil))))) (ss_one ss_bad) ss_nil)
  (ss_cons (ss_if (st_not (st_val (sd_call (ok_is_numbers F) (hr.mono (by decide)) rfl F.g_is_numbers cx_takes (sa_cons (so_nm (i := 4) rfl (.inl rfl)) sa_nil)))) (ss_one ss_bad) ss_nil)
  (ss_cons (ss_setF (fl_name F) (so_nm (i := 0) rfl (.inl rfl)) (so_nm (i := 1) rfl (.inl rfl)))
  (ss_cons (ss_setF (fl_seats F) (so_nm (i := 0) rfl (.inl rfl)) (so_nm (i := 2) rfl (.inl rfl)))
  (ss_cons (ss_setF (fl_kinds F) (so_nm (i := 0) rfl (.inl rfl)) (so_nm (i := 3) rfl (.inl rfl)))
  (ss_one (ss_setF (fl_closed F) (so_nm (i := 0) rfl (.inl rfl)) (so_nm (i := 4) rfl (.inl rfl)))))))))))
def f_Room_init : Fn := mkFn 5 5 m_Room_init
theorem ok_Room_init (F : Fx P w K mg base) : Df P w K mg base tabs 4 (He.fAd K ("Room", some "__init__")) ["self", "name", "seats", "kinds", "closed"] f_Room_init := df_of F.fd_Room_init (fs_by rfl) rfl rfl (fun _ _ _ _ _ _ us hl => match us, hl with | [_, _, _, _, _], _ => rfl) (b_Room_init F)
def m_Person_init : M Fl := (mSeq (mIfS (mNot (mTest (mCall (f_is_name) [(.nm 1)]))) mBad mNx)
  (mSeq (mIfS (mNot (mTest (mCall (f_is_numbers) [(.nm 2)]))) mBad mNx)
  (mSeq (mIfS (mNot (mTest (mCall (f_is_between) [(.nm 3), (.ex (mC (.int 0))), (.ex (mC (.int 12)))]))) mBad mNx)
  (mSeq (mN [(.nm 1), (.nm 0)] (gSetF ["Room", "Person", "Lesson"] "name"))
  (mSeq (mN [(.nm 2), (.nm 0)] (gSetF ["Person"] "absent"))
  (mN [(.nm 3), (.nm 0)] (gSetF ["Person"] "most")))))))
abbrev X_Person_init (P : Program) (w : World) (K : PySem.W.Frag) (mg : Str → Option Value) (base : Heap) (cdv : Value) (A : Around) (outer : List Env) (s : Shared) (H : Hp) (E : XK) : Cx := Xc P w K mg base ["self", "name", "absent", "most"] "Person.__init__" (defScope (inClass (top 43) 0)) (He.fAd K ("Person", some "__init__")) cdv A outer s H E
theorem b_Person_init (F : Fx P w K mg base) (cdv : Value) (bor : List Addr) (A : Around) (outer : List Env) (s : Shared) (H : Hp) (E : XK) (hr : Room 3 (A.deeper (envOfC "Person.__init__" (defScope (inClass (top 43) 0)) s.heap.objs.size (He.fAd K ("Person", some "__init__")) cdv))) :
    SB (X_Person_init P w K mg base cdv A outer s H E) ⟨tabs, bor⟩ (We E) (defBody (inClass (top 43) 0)) m_Person_init := by
  have nd : (["self", "name", "absent", "most"] : List Str).Nodup := by decide
  exact (ss_cons (ss_if (st_not (st_val (sd_call (ok_is_name F) (hr.mono (by decide)) rfl F.g_is_name cx_takes (sa_cons (so_nm (i := 1) rfl (.inl rfl)) sa_nil)))) (ss_one ss_bad) ss_nil)
  (ss_cons (ss_if (st_not (st_val (sd_call (ok_is_numbers F) (hr.mono (by decide)) rfl F.g_is_numbers cx_takes (sa_cons (so_nm (i := 2) rfl (.inl rfl)) sa_nil)))) (ss_one ss_bad) ss_nil)
  (ss_cons (ss_if (st_not (st_val (sd_call (ok_is_between F) (hr.mono (by decide)) rfl F.g_is_between cx_takes (sa_cons (so_nm (i := 3) rfl (.inl rfl)) (sa_cons (so_ex se_int) (sa_cons (so_ex (se_gl rfl F.c_MOST_A_DAY (fun _ _ => Rv.int))) sa_nil)))))) (ss_one ss_bad) ss_nil)
  (ss_cons (ss_setF (fl_name F) (so_nm (i := 0) rfl (.inl rfl)) (so_nm (i := 1) rfl (.inl rfl)))
  (ss_cons (ss_setF (fl_absent F) (so_nm (i := 0) rfl (.inl rfl)) (so_nm (i := 2) rfl (.inl rfl)))
  (ss_one (ss_setF (fl_most F) (so_nm (i := 0) rfl (.inl rfl)) (so_nm (i := 3) rfl (.inl rfl)))))))))
def f_Person_init : Fn := mkFn 4 4 m_Person_init
theorem ok_Person_init (F : Fx P w K mg base) : Df P w K mg base tabs 4 (He.fAd K ("Person", some "__init__")) ["self", "name", "absent", "most"] f_Person_init := df_of F.fd_Person_init (fs_by rfl) rfl rfl (fun _ _ _ _ _ _ us hl => match us, hl with | [_, _, _, _], _ => rfl) (b_Person_init F)
def m_Lesson_init : M Fl := (mSeq (mIfS (mNot (mTest (mCall (f_is_name) [(.nm 1)]))) mBad mNx)
  (mSeq (mIfS (mNot (mTest (mCall (f_is_between) [(.nm 2), (.ex (mC (.int 1))), (.ex (mC (.int 4)))]))) mBad mNx)
  (mSeq (mIfS (mNot (mTest (mCall (f_is_names) [(.nm 3), (.ex (mC (.int 8)))]))) mBad mNx)
  (mSeq (mIfS (mNot (mTest (mCall (f_is_between) [(.nm 4), (.ex (mC (.int 0))), (.ex (mC (.int 999)))]))) mBad mNx)
  (mSeq (mIfS (mNot (mTest (mCall (f_is_names) [(.nm 5), (.ex (mC (.int 6)))]))) mBad mNx)
  (mSeq (mIfS (mNot (mTest (mCall (f_is_numbers) [(.nm 6)]))) mBad mNx)
  (mSeq (mN [(.nm 1), (.nm 0)] (gSetF ["Room", "Person", "Lesson"] "name"))
  (mSeq (mN [(.nm 2), (.nm 0)] (gSetF ["Lesson"] "length"))
  (mSeq (mN [(.nm 3), (.nm 0)] (gSetF ["Lesson", "Book"] "people"))
  (mSeq (mN [(.nm 4), (.nm 0)] (gSetF ["Room", "Lesson"] "seats"))
  (mSeq (mN [(.nm 5), (.nm 0)] (gSetF ["Room", "Lesson"] "kinds"))
  (mN [(.nm 6), (.nm 0)] (gSetF ["Lesson"] "starts")))))))))))))
abbrev X_Lesson_init (P : Program) (w : World) (K : PySem.W.Frag) (mg : Str → Option Value) (base : Heap) (cdv : Value) (A : Around) (outer : List Env) (s : Shared) (H : Hp) (E : XK) : Cx := Xc P w K mg base ["self", "name", "length", "people", "seats", "kinds", "starts"] "Lesson.__init__" (defScope (inClass (top 44) 0)) (He.fAd K ("Lesson", some "__init__")) cdv A outer s H E
theorem b_Lesson_init (F : Fx P w K mg base) (cdv : Value) (bor : List Addr) (A : Around) (outer : List Env) (s : Shared) (H : Hp) (E : XK) (hr : Room 3 (A.deeper (envOfC "Lesson.__init__" (defScope (inClass (top 44) 0)) s.heap.objs.size (He.fAd K ("Lesson", some "__init__")) cdv))) :
    SB (X_Lesson_init P w K mg base cdv A outer s H E) ⟨tabs, bor⟩ (We E) (defBody (inClass (top 44) 0)) m_Lesson_init := by
  have nd : (["self", "name", "length", "people", "seats", "kinds", "starts"] : List Str).Nodup := by decide
  exact (ss_cons (ss_if (st_not (st_val (sd_call (ok_is_name F) (hr.mono (by decide)) rfl F.g_is_name cx_takes (sa_cons (so_nm (i := 1) rfl (.inl rfl)) sa_nil)))) (ss_one ss_bad) ss_nil)
  (ss_cons (ss_if (st_not (st_val (sd_call (ok_is_between F) (hr.mono (by decide)) rfl F.g_is_between cx_takes (sa_cons (so_nm (i := 2) rfl (.inl rfl)) (sa_cons (so_ex se_int) (sa_cons (so_ex (se_gl rfl F.c_MOST_LENGTH (fun _ _ => Rv.int))) sa_nil)))))) (ss_one ss_bad) ss_nil)
  (ss_cons (ss_if (st_not (st_val (sd_call (ok_is_names F) (hr.mono (by decide)) rfl F.g_is_names cx_takes (sa_cons (so_nm (i := 3) rfl (.inl rfl)) (sa_cons (so_ex (se_gl rfl F.c_MOST_IN_LESSON (fun _ _ => Rv.int))) sa_nil))))) (ss_one ss_bad) ss_nil)
  (ss_cons (ss_if (st_not (st_val (sd_call (ok_is_between F) (hr.mono (by decide)) rfl F.g_is_between cx_takes (sa_cons (so_nm (i := 4) rfl (.inl rfl)) (sa_cons (so_ex se_int) (sa_cons (so_ex (se_gl rfl F.c_MOST_SEATS (fun _ _ => Rv.int))) sa_nil)))))) (ss_one ss_bad) ss_nil)
  (ss_cons (ss_if (st_not (st_val (sd_call (ok_is_names F) (hr.mono (by decide)) rfl F.g_is_names cx_takes (sa_cons (so_nm (i := 5) rfl (.inl rfl)) (sa_cons (so_ex (se_gl rfl F.c_MOST_KINDS (fun _ _ => Rv.int))) sa_nil))))) (ss_one ss_bad) ss_nil)
  (ss_cons (ss_if (st_not (st_val (sd_call (ok_is_numbers F) (hr.mono (by decide)) rfl F.g_is_numbers cx_takes (sa_cons (so_nm (i := 6) rfl (.inl rfl)) sa_nil)))) (ss_one ss_bad) ss_nil)
  (ss_cons (ss_setF (fl_name F) (so_nm (i := 0) rfl (.inl rfl)) (so_nm (i := 1) rfl (.inl rfl)))
  (ss_cons (ss_setF (fl_length F) (so_nm (i := 0) rfl (.inl rfl)) (so_nm (i := 2) rfl (.inl rfl)))
  (ss_cons (ss_setF (fl_people F) (so_nm (i := 0) rfl (.inl rfl)) (so_nm (i := 3) rfl (.inl rfl)))
  (ss_cons (ss_setF (fl_seats F) (so_nm (i := 0) rfl (.inl rfl)) (so_nm (i := 4) rfl (.inl rfl)))
  (ss_cons (ss_setF (fl_kinds F) (so_nm (i := 0) rfl (.inl rfl)) (so_nm (i := 5) rfl (.inl rfl)))
  (ss_one (ss_setF (fl_starts F) (so_nm (i := 0) rfl (.inl rfl)) (so_nm (i := 6) rfl (.inl rfl)))))))))))))))
def f_Lesson_init : Fn := mkFn 7 7 m_Lesson_init
theorem ok_Lesson_init (F : Fx P w K mg base) : Df P w K mg base tabs 4 (He.fAd K ("Lesson", some "__init__")) ["self", "name", "length", "people", "seats", "kinds", "starts"] f_Lesson_init := df_of F.fd_Lesson_init (fs_by rfl) rfl rfl (fun _ _ _ _ _ _ us hl => match us, hl with | [_, _, _, _, _, _, _], _ => rfl) (b_Lesson_init F)
def m_is_rule : M Fl := (mSeq (mIfS (mOr (mNot (mTest (mN [(.nm 0)] (gIsT [] .tuple)))) (mOr (mTest (mN [(.ex (mN [(.nm 0)] gLen)), (.ex (mC (.int 3)))] gLt)) (mNot (mTest (mN [(.ex (mN [(.nm 0), (.ex (mC (.int 0)))] gAt))] (gIsT [] .str)))))) (mRet (mC (.bl false))) mNx)
  (mSeq (mIfS (mTest (mN [(.ex (mN [(.nm 0), (.ex (mC (.int 0)))] gAt)), (.ex (mC (.str "most")))] (gEq false))) (mRet (mB (mAnd (mTest (mN [(.ex (mN [(.nm 0)] gLen)), (.ex (mC (.int 3)))] (gEq false))) (mAnd (mTest (mCall (f_is_names) [(.ex (mN [(.nm 0), (.ex (mC (.int 1)))] gAt)), (.ex (mC (.int 12)))])) (mAnd (mTest (mN [(.ex (mN [(.ex (mN [(.nm 0), (.ex (mC (.int 1)))] gAt))] gLen)), (.ex (mC (.int 1)))] (gI2 fun i j => .bl (decide (j < i))))) (mTest (mCall (f_is_between) [(.ex (mN [(.nm 0), (.ex (mC (.int 2)))] gAt)), (.ex (mC (.int 1))), (.ex (mC (.int 6)))]))))))) mNx)
  (mSeq (mIfS (mOr (mNot (mTest (mCall (f_is_name) [(.ex (mN [(.nm 0), (.ex (mC (.int 1)))] gAt))]))) (mOr (mNot (mTest (mCall (f_is_name) [(.ex (mN [(.nm 0), (.ex (mC (.int 2)))] gAt))]))) (mTest (mN [(.ex (mN [(.nm 0), (.ex (mC (.int 1)))] gAt)), (.ex (mN [(.nm 0), (.ex (mC (.int 2)))] gAt))] (gEq false))))) (mRet (mC (.bl false))) mNx)
  (mSeq (mIfS (mTest (mN [(.ex (mN [(.nm 0), (.ex (mC (.int 0)))] gAt)), (.ex (mC (.str "gap")))] (gEq false))) (mRet (mB (mAnd (mTest (mN [(.ex (mN [(.nm 0)] gLen)), (.ex (mC (.int 4)))] (gEq false))) (mTest (mCall (f_is_between) [(.ex (mN [(.nm 0), (.ex (mC (.int 3)))] gAt)), (.ex (mC (.int 1))), (.ex (mC (.int 6)))]))))) mNx)
  (mRet (mB (mAnd (mTest (mN [(.ex (mN [(.nm 0), (.ex (mC (.int 0)))] gAt)), (.ex (mC (.tup [.str "apart", .str "same", .str "ahead", .str "together", .str "next"])))] (gIn false))) (mTest (mN [(.ex (mN [(.nm 0)] gLen)), (.ex (mC (.int 3)))] (gEq false))))))))))
abbrev X_is_rule (P : Program) (w : World) (K : PySem.W.Frag) (mg : Str → Option Value) (base : Heap) (cdv : Value) (A : Around) (outer : List Env) (s : Shared) (H : Hp) (E : XK) : Cx := Xc P w K mg base ["thing"] "is_rule" (defScope (top 45)) (He.fAd K ("is_rule", none)) cdv A outer s H E
theorem b_is_rule (F : Fx P w K mg base) (cdv : Value) (bor : List Addr) (A : Around) (outer : List Env) (s : Shared) (H : Hp) (E : XK) (hr : Room 2 (A.deeper (envOfC "is_rule" (defScope (top 45)) s.heap.objs.size (He.fAd K ("is_rule", none)) cdv))) :
    SB (X_is_rule P w K mg base cdv A outer s H E) ⟨tabs, bor⟩ (We E) (defBody (top 45)) m_is_rule := by
  have nd : (["thing"] : List Str).Nodup := by decide
  exact (ss_cons (ss_if (st_bool (sw_or (st_not (st_val (se_isT (n := "tuple") (t := .tuple) (cs := []) rfl (by decide) (by decide) (fun _ z => nomatch z) rfl F.n_isinstance rfl F.n_tuple (so_nm (i := 0) rfl (.inl rfl))))) (sw_or (st_lt (so_ex (se_len rfl F.n_len (sa_cons (so_nm (i := 0) rfl (.inl rfl)) sa_nil))) (so_ex se_int)) (sw_or1 (st_not (st_val (se_isT (n := "str") (t := .str) (cs := []) rfl (by decide) (by decide) (fun _ z => nomatch z) rfl F.n_isinstance rfl F.n_str (so_ex (se_at (fun _ _ => rfl) (so_nm (i := 0) rfl (.inl rfl)) (so_ex se_int)))))))))) (ss_one (ss_ret se_bl)) ss_nil)
  (ss_cons (ss_if (st_eq hr.units (so_ex (se_at (fun _ _ => rfl) (so_nm (i := 0) rfl (.inl rfl)) (so_ex se_int))) (so_ex se_str)) (ss_one (ss_ret (se_B (sv_and (sv_val (se_eq hr.units (so_ex (se_len rfl F.n_len (sa_cons (so_nm (i := 0) rfl (.inl rfl)) sa_nil))) (so_ex se_int))) (sv_and (sv_val (sd_call (ok_is_names F) (hr.mono (by decide)) rfl F.g_is_names cx_takes (sa_cons (so_ex (se_at (fun _ _ => rfl) (so_nm (i := 0) rfl (.inl rfl)) (so_ex se_int))) (sa_cons (so_ex se_int) sa_nil)))) (sv_and (sv_val (se_gt (so_ex (se_len rfl F.n_len (sa_cons (so_ex (se_at (fun _ _ => rfl) (so_nm (i := 0) rfl (.inl rfl)) (so_ex se_int))) sa_nil))) (so_ex se_int))) (sv_one (sv_val (sd_call (ok_is_between F) (hr.mono (by decide)) rfl F.g_is_between cx_takes (sa_cons (so_ex (se_at (fun _ _ => rfl) (so_nm (i := 0) rfl (.inl rfl)) (so_ex se_int))) (sa_cons (so_ex se_int) (sa_cons (so_ex (se_gl rfl F.c_MOST_TOLD (fun _ _ => Rv.int))) sa_nil)))))))))))) ss_nil)
  (ss_cons (ss_if (st_bool (sw_or (st_not (st_val (sd_call (ok_is_name F) (hr.mono (by decide)) rfl F.g_is_name cx_takes (sa_cons (so_ex (se_at (fun _ _ => rfl) (so_nm (i := 0) rfl (.inl rfl)) (so_ex se_int))) sa_nil)))) (sw_or (st_not (st_val (sd_call (ok_is_name F) (hr.mono (by decide)) rfl F.g_is_name cx_takes (sa_cons (so_ex (se_at (fun _ _ => rfl) (so_nm (i := 0) rfl (.inl rfl)) (so_ex se_int))) sa_nil)))) (sw_or1 (st_eq hr.units (so_ex (se_at (fun _ _ => rfl) (so_nm (i := 0) rfl (.inl rfl)) (so_ex se_int))) (so_ex (se_at (fun _ _ => rfl) (so_nm (i := 0) rfl (.inl rfl)) (so_ex se_int)))))))) (ss_one (ss_ret se_bl)) ss_nil)
  (ss_cons (ss_if (st_eq hr.units (so_ex (se_at (fun _ _ => rfl) (so_nm (i := 0) rfl (.inl rfl)) (so_ex se_int))) (so_ex se_str)) (ss_one (ss_ret (se_B (sv_and (sv_val (se_eq hr.units (so_ex (se_len rfl F.n_len (sa_cons (so_nm (i := 0) rfl (.inl rfl)) sa_nil))) (so_ex se_int))) (sv_one (sv_val (sd_call (ok_is_between F) (hr.mono (by decide)) rfl F.g_is_between cx_takes (sa_cons (so_ex (se_at (fun _ _ => rfl) (so_nm (i := 0) rfl (.inl rfl)) (so_ex se_int))) (sa_cons (so_ex se_int) (sa_cons (so_ex (se_gl rfl F.c_MOST_TOLD (fun _ _ => Rv.int))) sa_nil)))))))))) ss_nil)
  (ss_one (ss_ret (se_B (sv_and (sv_val (se_in (units65 hr) (so_ex (se_at (fun _ _ => rfl) (so_nm (i := 0) rfl (.inl rfl)) (so_ex se_int))) (so_ex (se_gl rfl F.c_PAIRS.1 (fun _ H => .tup (F.c_PAIRS.2 H) (.lit rfl (.lit rfl (.lit rfl (.lit rfl (.lit rfl .nil))))) .nil))))) (sv_one (sv_val (se_eq hr.units (so_ex (se_len rfl F.n_len (sa_cons (so_nm (i := 0) rfl (.inl rfl)) sa_nil))) (so_ex se_int))))))))))))
def f_is_rule : Fn := mkFn 1 1 m_is_rule
theorem ok_is_rule (F : Fx P w K mg base) : Df P w K mg base tabs 3 (He.fAd K ("is_rule", none)) ["thing"] f_is_rule := df_of F.fd_is_rule (fs_by rfl) rfl rfl (fun _ _ _ _ _ _ us hl => match us, hl with | [_], _ => rfl) (b_is_rule F)
def m_names_of : M Fl := (mRet (mIf (mTest (mN [(.ex (mN [(.nm 0), (.ex (mC (.int 0)))] gAt)), (.ex (mC (.str "most")))] (gEq false))) (mN [(.nm 0), (.ex (mC (.int 1)))] gAt) (mSlB (.nm 0) (.ex (mC (.int 1))) (.ex (mC (.int 3))))))
abbrev X_names_of (P : Program) (w : World) (K : PySem.W.Frag) (mg : Str → Option Value) (base : Heap) (cdv : Value) (A : Around) (outer : List Env) (s : Shared) (H : Hp) (E : XK) : Cx := Xc P w K mg base ["rule"] "names_of" (defScope (top 46)) (He.fAd K ("names_of", none)) cdv A outer s H E
theorem b_names_of (F : Fx P w K mg base) (cdv : Value) (bor : List Addr) (A : Around) (outer : List Env) (s : Shared) (H : Hp) (E : XK) (hr : Room 0 (A.deeper (envOfC "names_of" (defScope (top 46)) s.heap.objs.size (He.fAd K ("names_of", none)) cdv))) :
    SB (X_names_of P w K mg base cdv A outer s H E) ⟨tabs, bor⟩ (We E) (defBody (top 46)) m_names_of := by
  have nd : (["rule"] : List Str).Nodup := by decide
  exact (ss_one (ss_ret (se_if (st_eq hr.units (so_ex (se_at (fun _ _ => rfl) (so_nm (i := 0) rfl (.inl rfl)) (so_ex se_int))) (so_ex se_str)) (se_at (fun _ _ => rfl) (so_nm (i := 0) rfl (.inl rfl)) (so_ex se_int)) (se_slB (so_nm (i := 0) rfl (.inl rfl)) (so_ex se_int) (so_ex se_int)))))
def f_names_of : Fn := mkFn 1 1 m_names_of
theorem ok_names_of (F : Fx P w K mg base) : Df P w K mg base tabs 1 (He.fAd K ("names_of", none)) ["rule"] f_names_of := df_of F.fd_names_of (fs_by rfl) rfl rfl (fun _ _ _ _ _ _ us hl => match us, hl with | [_], _ => rfl) (b_names_of F)
def m_is_behind : M Fl := (mRet (mB (mOr (mTest (mN [(.nm 1), (.ex (mC (.int 0)))] (gEq false))) (mTest (mN [(.ex (mN [(.ex (mN [(.nm 0), (.ex (mN [(.nm 1), (.ex (mC (.int 1)))] (gI2 fun i j => .int (i - j))))] gAt))] (gFl ["Room", "Person", "Lesson"] "name"))), (.ex (mN [(.ex (mN [(.nm 0), (.nm 1)] gAt))] (gFl ["Room", "Person", "Lesson"] "name")))] gLt)))))
abbrev X_is_behind (P : Program) (w : World) (K : PySem.W.Frag) (mg : Str → Option Value) (base : Heap) (cdv : Value) (A : Around) (outer : List Env) (s : Shared) (H : Hp) (E : XK) : Cx := Xc P w K mg base ["parts", "at"] "is_behind" (defScope (top 47)) (He.fAd K ("is_behind", none)) cdv A outer s H E
theorem b_is_behind (F : Fx P w K mg base) (cdv : Value) (bor : List Addr) (A : Around) (outer : List Env) (s : Shared) (H : Hp) (E : XK) (hr : Room 0 (A.deeper (envOfC "is_behind" (defScope (top 47)) s.heap.objs.size (He.fAd K ("is_behind", none)) cdv))) :
    SB (X_is_behind P w K mg base cdv A outer s H E) ⟨tabs, bor⟩ (We E) (defBody (top 47)) m_is_behind := by
  have nd : (["parts", "at"] : List Str).Nodup := by decide
  exact (ss_one (ss_ret (se_B (sv_or (sv_val (se_eq hr.units (so_nm (i := 1) rfl (.inl rfl)) (so_ex se_int))) (sv_one (sv_val (se_lt (so_ex (se_fl (fl_name F) rfl (so_ex (se_at (fun _ _ => rfl) (so_nm (i := 0) rfl (.inl rfl)) (so_ex (se_sub (so_nm (i := 1) rfl (.inl rfl)) (so_ex se_int))))))) (so_ex (se_fl (fl_name F) rfl (so_ex (se_at (fun _ _ => rfl) (so_nm (i := 0) rfl (.inl rfl)) (so_nm (i := 1) rfl (.inl rfl)))))))))))))
def f_is_behind : Fn := mkFn 2 2 m_is_behind
theorem ok_is_behind (F : Fx P w K mg base) : Df P w K mg base tabs 1 (He.fAd K ("is_behind", none)) ["parts", "at"] f_is_behind := df_of F.fd_is_behind (fs_by rfl) rfl rfl (fun _ _ _ _ _ _ us hl => match us, hl with | [_, _], _ => rfl) (b_is_behind F)
def m_Book_put_lessons : M Fl := (mSeq (mIfS (mOr (mNot (mTest (mN [(.nm 1)] (gIsT [] .tuple)))) (mTest (mN [(.ex (mN [(.nm 1)] gLen)), (.ex (mC (.int 24)))] (gI2 fun i j => .bl (decide (j < i)))))) mBad mNx)
  (mSeq (mFor (itE (.ex (mRd 1))) (setT [2, 3]) (mSeq (mIfS (mOr (mNot (mTest (mN [(.nm 3)] (gIsO [("Lesson", true)])))) (mNot (mTest (mCall (f_is_slots) [(.ex (mN [(.nm 0)] (gFl ["Book"] "week"))), (.ex (mN [(.nm 3)] (gFl ["Lesson"] "starts")))])))) mBad mNx)
  (mIfS (mOr (mNot (mTest (mN [(.ex (mLc [4] (itS (.ex (mN [(.nm 3)] (gFl ["Lesson", "Book"] "people")))) (setN 4) mTrue (mN [(.nm 4), (.ex (mN [(.nm 0)] (gFl ["Book"] "person_named")))] (gInDk false))))] gAll))) (mNot (mTest (mCall (f_is_behind) [(.nm 1), (.nm 2)])))) mBad mNx)))
  (mSeq (mN [(.nm 1), (.nm 0)] (gSetF ["Book"] "lessons"))
  (mN [(.ex (mFg [3] (mDc [3] (itS (.nm 1)) (setN 3) mTrue (mN [(.nm 3)] (gFl ["Room", "Person", "Lesson"] "name")) (mRd 3)))), (.nm 0)] (gSetF ["Book"] "lesson_named")))))
abbrev X_Book_put_lessons (P : Program) (w : World) (K : PySem.W.Frag) (mg : Str → Option Value) (base : Heap) (cdv : Value) (A : Around) (outer : List Env) (s : Shared) (H : Hp) (E : XK) : Cx := Xc P w K mg base ["self", "lessons", "at", "lesson", "name"] "Book.put_lessons" (defScope (inClass (top 48) 1)) (He.fAd K ("Book", some "put_lessons")) cdv A outer s H E
theorem b_Book_put_lessons (F : Fx P w K mg base) (cdv : Value) (bor : List Addr) (A : Around) (outer : List Env) (s : Shared) (H : Hp) (E : XK) (hr : Room 4 (A.deeper (envOfC "Book.put_lessons" (defScope (inClass (top 48) 1)) s.heap.objs.size (He.fAd K ("Book", some "put_lessons")) cdv))) :
    SB (X_Book_put_lessons P w K mg base cdv A outer s H E) ⟨tabs, bor⟩ (We E) (defBody (inClass (top 48) 1)) m_Book_put_lessons := by
  have nd : (["self", "lessons", "at", "lesson", "name"] : List Str).Nodup := by decide
  exact (ss_cons (ss_if (st_bool (sw_or (st_not (st_val (se_isT (n := "tuple") (t := .tuple) (cs := []) rfl (by decide) (by decide) (fun _ z => nomatch z) rfl F.n_isinstance rfl F.n_tuple (so_nm (i := 1) rfl (.inl rfl))))) (sw_or1 (st_gt (so_ex (se_len rfl F.n_len (sa_cons (so_nm (i := 1) rfl (.inl rfl)) sa_nil))) (so_ex (se_gl rfl F.c_MOST_LESSONS (fun _ _ => Rv.int))))))) (ss_one ss_bad) ss_nil)
  (ss_cons (ss_for (X := X_Book_put_lessons P w K mg base cdv A outer s H E) cx_passes rfl (si_enum (X := X_Book_put_lessons P w K mg base cdv A outer s H E) rfl F.n_enumerate (sa_cons (so_ex (se_rd (i := 1) rfl (.inl rfl))) sa_nil)) (sg_tup rfl (sgs_cons (i := 2) nd rfl (.inl rfl) (sgs_cons (i := 3) nd rfl (.inl rfl) sgs_nil))) (ss_cons (ss_if (st_bool (sw_or (st_not (st_val (se_isO (sub := [("Lesson", true)]) (n := "Lesson") (by decide) F.kt_Lesson (io_Lesson F) rfl F.n_isinstance rfl F.g_Lesson (so_nm (i := 3) rfl (.inl rfl))))) (sw_or1 (st_not (st_val (sd_call (ok_is_slots F) (hr.mono (by decide)) rfl F.g_is_slots cx_takes (sa_cons (so_ex (se_fl (fl_week F) rfl (so_nm (i := 0) rfl (.inr (.inl rfl))))) (sa_cons (so_ex (se_fl (fl_starts F) rfl (so_nm (i := 3) rfl (.inl rfl)))) sa_nil)))))))) (ss_one ss_bad) ss_nil)
  (ss_one (ss_if (st_bool (sw_or (st_not (st_val (se_all rfl rfl F.n_all (sa_cons (so_ex (se_lc rfl nd (blkOk_by (own := [("name", 4)]) rfl) (by decide) (by decide) (si_seq (so_ex (se_fl (fl_people F) rfl (so_nm (i := 3) rfl (.inl rfl))))) (fun _ _ _ _ _ => (sg_nm (i := 4) nd rfl (.inl rfl))) (fun _ _ _ _ _ => sts_nil) (fun _ _ _ _ _ => (se_inD (units1 hr) (so_nm (i := 4) rfl (.inl rfl)) (so_ex (se_fl (fl_person_named F) rfl (so_nm (i := 0) rfl (.inr (.inl rfl))))))))) sa_nil)))) (sw_or1 (st_not (st_val (sd_call (ok_is_behind F) (hr.mono (by decide)) rfl F.g_is_behind cx_takes (sa_cons (so_nm (i := 1) rfl (.inl rfl)) (sa_cons (so_nm (i := 2) rfl (.inl rfl)) sa_nil)))))))) (ss_one ss_bad) ss_nil))))
  (ss_cons (ss_setF (fl_lessons F) (so_nm (i := 0) rfl (.inr (.inl rfl))) (so_nm (i := 1) rfl (.inl rfl)))
  (ss_one (ss_setF (fl_lesson_named F) (so_nm (i := 0) rfl (.inr (.inl rfl))) (so_ex (se_fg [3] (se_dc rfl nd (blkOk_by (own := [("lesson", 3)]) rfl) (by decide) (by decide) (si_seq (so_nm (i := 1) rfl (.inl rfl))) (fun _ _ _ _ _ => (sg_nm (i := 3) nd rfl (.inl rfl))) (fun _ _ _ _ _ => sts_nil) (fun _ _ _ _ _ => (se_fl (fl_name F) rfl (so_nm (i := 3) rfl (.inl rfl)))) (fun _ _ _ _ _ => (se_rd (i := 3) rfl (.inl rfl)))))))))))
def f_Book_put_lessons : Fn := mkFn 5 2 m_Book_put_lessons
theorem ok_Book_put_lessons (F : Fx P w K mg base) : Df P w K mg base tabs 5 (He.fAd K ("Book", some "put_lessons")) ["self", "lessons"] f_Book_put_lessons := df_of F.fd_Book_put_lessons (fs_by rfl) rfl rfl (fun _ _ _ _ _ _ us hl => match us, hl with | [_, _], _ => rfl) (b_Book_put_lessons F)
def m_Book_put_rules : M Fl := (mSeq (mIfS (mOr (mNot (mTest (mN [(.nm 1)] (gIsT [] .tuple)))) (mTest (mN [(.ex (mN [(.nm 1)] gLen)), (.ex (mC (.int 40)))] (gI2 fun i j => .bl (decide (j < i)))))) mBad mNx)
  (mSeq (mFor (itE (.ex (mRd 1))) (setT [2, 3]) (mSeq (mIfS (mOr (mNot (mTest (mCall (f_is_rule) [(.nm 3)]))) (mNot (mTest (mN [(.ex (mLc [4] (itS (.ex (mCall (f_names_of) [(.nm 3)]))) (setN 4) mTrue (mN [(.nm 4), (.ex (mN [(.nm 0)] (gFl ["Book"] "lesson_named")))] (gInDk false))))] gAll)))) mBad mNx)
  (mIfS (mTest (mN [(.nm 3), (.ex (mN [(.nm 1), (.nm 2)] gSlH))] (gIn false))) mBad mNx)))
  (mN [(.nm 1), (.nm 0)] (gSetF ["Book"] "rules"))))
abbrev X_Book_put_rules (P : Program) (w : World) (K : PySem.W.Frag) (mg : Str → Option Value) (base : Heap) (cdv : Value) (A : Around) (outer : List Env) (s : Shared) (H : Hp) (E : XK) : Cx := Xc P w K mg base ["self", "rules", "at", "rule", "name"] "Book.put_rules" (defScope (inClass (top 48) 2)) (He.fAd K ("Book", some "put_rules")) cdv A outer s H E
theorem b_Book_put_rules (F : Fx P w K mg base) (cdv : Value) (bor : List Addr) (A : Around) (outer : List Env) (s : Shared) (H : Hp) (E : XK) (hr : Room 3 (A.deeper (envOfC "Book.put_rules" (defScope (inClass (top 48) 2)) s.heap.objs.size (He.fAd K ("Book", some "put_rules")) cdv))) :
    SB (X_Book_put_rules P w K mg base cdv A outer s H E) ⟨tabs, bor⟩ (We E) (defBody (inClass (top 48) 2)) m_Book_put_rules := by
  have nd : (["self", "rules", "at", "rule", "name"] : List Str).Nodup := by decide
  exact (ss_cons (ss_if (st_bool (sw_or (st_not (st_val (se_isT (n := "tuple") (t := .tuple) (cs := []) rfl (by decide) (by decide) (fun _ z => nomatch z) rfl F.n_isinstance rfl F.n_tuple (so_nm (i := 1) rfl (.inl rfl))))) (sw_or1 (st_gt (so_ex (se_len rfl F.n_len (sa_cons (so_nm (i := 1) rfl (.inl rfl)) sa_nil))) (so_ex (se_gl rfl F.c_MOST_RULES (fun _ _ => Rv.int))))))) (ss_one ss_bad) ss_nil)
  (ss_cons (ss_for (X := X_Book_put_rules P w K mg base cdv A outer s H E) cx_passes rfl (si_enum (X := X_Book_put_rules P w K mg base cdv A outer s H E) rfl F.n_enumerate (sa_cons (so_ex (se_rd (i := 1) rfl (.inl rfl))) sa_nil)) (sg_tup rfl (sgs_cons (i := 2) nd rfl (.inl rfl) (sgs_cons (i := 3) nd rfl (.inl rfl) sgs_nil))) (ss_cons (ss_if (st_bool (sw_or (st_not (st_val (sd_call (ok_is_rule F) (hr.mono (by decide)) rfl F.g_is_rule cx_takes (sa_cons (so_nm (i := 3) rfl (.inl rfl)) sa_nil)))) (sw_or1 (st_not (st_val (se_all rfl rfl F.n_all (sa_cons (so_ex (se_lc rfl nd (blkOk_by (own := [("name", 4)]) rfl) (by decide) (by decide) (si_seq (so_ex (sd_call (ok_names_of F) (hr.mono (by decide)) rfl F.g_names_of cx_takes (sa_cons (so_nm (i := 3) rfl (.inl rfl)) sa_nil)))) (fun _ _ _ _ _ => (sg_nm (i := 4) nd rfl (.inl rfl))) (fun _ _ _ _ _ => sts_nil) (fun _ _ _ _ _ => (se_inD (units1 hr) (so_nm (i := 4) rfl (.inl rfl)) (so_ex (se_fl (fl_lesson_named F) rfl (so_nm (i := 0) rfl (.inr (.inl rfl))))))))) sa_nil))))))) (ss_one ss_bad) ss_nil)
  (ss_one (ss_if (st_in (units65 hr) (so_nm (i := 3) rfl (.inl rfl)) (so_ex (se_slH (so_nm (i := 1) rfl (.inl rfl)) (so_nm (i := 2) rfl (.inl rfl))))) (ss_one ss_bad) ss_nil))))
  (ss_one (ss_setF (fl_rules F) (so_nm (i := 0) rfl (.inr (.inl rfl))) (so_nm (i := 1) rfl (.inl rfl))))))
def f_Book_put_rules : Fn := mkFn 5 2 m_Book_put_rules
theorem ok_Book_put_rules (F : Fx P w K mg base) : Df P w K mg base tabs 4 (He.fAd K ("Book", some "put_rules")) ["self", "rules"] f_Book_put_rules := df_of F.fd_Book_put_rules (fs_by rfl) rfl rfl (fun _ _ _ _ _ _ us hl => match us, hl with | [_, _], _ => rfl) (b_Book_put_rules F)
def m_Book_init : M Fl := (mSeq (mIfS (mNot (mTest (mN [(.nm 1)] (gIsO [("Week", true)])))) mBad mNx)
  (mSeq (mIfS (mOr (mNot (mTest (mN [(.nm 2)] (gIsT [] .tuple)))) (mTest (mN [(.ex (mN [(.nm 2)] gLen)), (.ex (mC (.int 12)))] (gI2 fun i j => .bl (decide (j < i)))))) mBad mNx)
  (mSeq (mFor (itE (.ex (mRd 2))) (setT [6, 7]) (mIfS (mOr (mNot (mTest (mN [(.nm 7)] (gIsO [("Room", true)])))) (mOr (mNot (mTest (mCall (f_is_slots) [(.nm 1), (.ex (mN [(.nm 7)] (gFl ["Room"] "closed")))]))) (mNot (mTest (mCall (f_is_behind) [(.nm 2), (.nm 6)]))))) mBad mNx))
  (mSeq (mIfS (mOr (mNot (mTest (mN [(.nm 3)] (gIsT [] .tuple)))) (mTest (mN [(.ex (mN [(.nm 3)] gLen)), (.ex (mC (.int 30)))] (gI2 fun i j => .bl (decide (j < i)))))) mBad mNx)
  (mSeq (mFor (itE (.ex (mRd 3))) (setT [6, 8]) (mIfS (mOr (mNot (mTest (mN [(.nm 8)] (gIsO [("Person", true)])))) (mOr (mNot (mTest (mCall (f_is_slots) [(.nm 1), (.ex (mN [(.nm 8)] (gFl ["Person"] "absent")))]))) (mNot (mTest (mCall (f_is_behind) [(.nm 3), (.nm 6)]))))) mBad mNx))
  (mSeq (mN [(.nm 1), (.nm 0)] (gSetF ["Book"] "week"))
  (mSeq (mN [(.nm 2), (.nm 0)] (gSetF ["Book"] "rooms"))
  (mSeq (mN [(.nm 3), (.nm 0)] (gSetF ["Lesson", "Book"] "people"))
  (mSeq (mN [(.ex (mFg [7] (mDc [7] (itS (.nm 2)) (setN 7) mTrue (mN [(.nm 7)] (gFl ["Room", "Person", "Lesson"] "name")) (mRd 7)))), (.nm 0)] (gSetF ["Book"] "room_named"))
  (mSeq (mN [(.ex (mFg [8] (mDc [8] (itS (.nm 3)) (setN 8) mTrue (mN [(.nm 8)] (gFl ["Room", "Person", "Lesson"] "name")) (mRd 8)))), (.nm 0)] (gSetF ["Book"] "person_named"))
  (mSeq (mDrop (mMeth "Book" "put_lessons" f_Book_put_lessons (.nm 0) [(.nm 4)]))
  (mDrop (mMeth "Book" "put_rules" f_Book_put_rules (.nm 0) [(.nm 5)])))))))))))))
abbrev X_Book_init (P : Program) (w : World) (K : PySem.W.Frag) (mg : Str → Option Value) (base : Heap) (cdv : Value) (A : Around) (outer : List Env) (s : Shared) (H : Hp) (E : XK) : Cx := Xc P w K mg base ["self", "week", "rooms", "people", "lessons", "rules", "at", "room", "person"] "Book.__init__" (defScope (inClass (top 48) 0)) (He.fAd K ("Book", some "__init__")) cdv A outer s H E
theorem b_Book_init (F : Fx P w K mg base) (cdv : Value) (bor : List Addr) (A : Around) (outer : List Env) (s : Shared) (H : Hp) (E : XK) (hr : Room 5 (A.deeper (envOfC "Book.__init__" (defScope (inClass (top 48) 0)) s.heap.objs.size (He.fAd K ("Book", some "__init__")) cdv))) :
    SB (X_Book_init P w K mg base cdv A outer s H E) ⟨tabs, bor⟩ (We E) (defBody (inClass (top 48) 0)) m_Book_init := by
  have nd : (["self", "week", "rooms", "people", "lessons", "rules", "at", "room", "person"] : List Str).Nodup := by decide
  exact (ss_cons (ss_if (st_not (st_val (se_isO (sub := [("Week", true)]) (n := "Week") (by decide) F.kt_Week (io_Week F) rfl F.n_isinstance rfl F.g_Week (so_nm (i := 1) rfl (.inl rfl))))) (ss_one ss_bad) ss_nil)
  (ss_cons (ss_if (st_bool (sw_or (st_not (st_val (se_isT (n := "tuple") (t := .tuple) (cs := []) rfl (by decide) (by decide) (fun _ z => nomatch z) rfl F.n_isinstance rfl F.n_tuple (so_nm (i := 2) rfl (.inl rfl))))) (sw_or1 (st_gt (so_ex (se_len rfl F.n_len (sa_cons (so_nm (i := 2) rfl (.inl rfl)) sa_nil))) (so_ex (se_gl rfl F.c_MOST_ROOMS (fun _ _ => Rv.int))))))) (ss_one ss_bad) ss_nil)
  (ss_cons (ss_for (X := X_Book_init P w K mg base cdv A outer s H E) cx_passes rfl (si_enum (X := X_Book_init P w K mg base cdv A outer s H E) rfl F.n_enumerate (sa_cons (so_ex (se_rd (i := 2) rfl (.inl rfl))) sa_nil)) (sg_tup rfl (sgs_cons (i := 6) nd rfl (.inl rfl) (sgs_cons (i := 7) nd rfl (.inl rfl) sgs_nil))) (ss_one (ss_if (st_bool (sw_or (st_not (st_val (se_isO (sub := [("Room", true)]) (n := "Room") (by decide) F.kt_Room (io_Room F) rfl F.n_isinstance rfl F.g_Room (so_nm (i := 7) rfl (.inl rfl))))) (sw_or (st_not (st_val (sd_call (ok_is_slots F) (hr.mono (by decide)) rfl F.g_is_slots cx_takes (sa_cons (so_nm (i := 1) rfl (.inl rfl)) (sa_cons (so_ex (se_fl (fl_closed F) rfl (so_nm (i := 7) rfl (.inl rfl)))) sa_nil))))) (sw_or1 (st_not (st_val (sd_call (ok_is_behind F) (hr.mono (by decide)) rfl F.g_is_behind cx_takes (sa_cons (so_nm (i := 2) rfl (.inl rfl)) (sa_cons (so_nm (i := 6) rfl (.inl rfl)) sa_nil))))))))) (ss_one ss_bad) ss_nil)))
  (ss_cons (ss_if (st_bool (sw_or (st_not (st_val (se_isT (n := "tuple") (t := .tuple) (cs := []) rfl (by decide) (by decide) (fun _ z => nomatch z) rfl F.n_isinstance rfl F.n_tuple (so_nm (i := 3) rfl (.inl rfl))))) (sw_or1 (st_gt (so_ex (se_len rfl F.n_len (sa_cons (so_nm (i := 3) rfl (.inl rfl)) sa_nil))) (so_ex (se_gl rfl F.c_MOST_PEOPLE (fun _ _ => Rv.int))))))) (ss_one ss_bad) ss_nil)
  (ss_cons (ss_for (X := X_Book_init P w K mg base cdv A outer s H E) cx_passes rfl (si_enum (X := X_Book_init P w K mg base cdv A outer s H E) rfl F.n_enumerate (sa_cons (so_ex (se_rd (i := 3) rfl (.inl rfl))) sa_nil)) (sg_tup rfl (sgs_cons (i := 6) nd rfl (.inl rfl) (sgs_cons (i := 8) nd rfl (.inl rfl) sgs_nil))) (ss_one (ss_if (st_bool (sw_or (st_not (st_val (se_isO (sub := [("Person", true)]) (n := "Person") (by decide) F.kt_Person (io_Person F) rfl F.n_isinstance rfl F.g_Person (so_nm (i := 8) rfl (.inl rfl))))) (sw_or (st_not (st_val (sd_call (ok_is_slots F) (hr.mono (by decide)) rfl F.g_is_slots cx_takes (sa_cons (so_nm (i := 1) rfl (.inl rfl)) (sa_cons (so_ex (se_fl (fl_absent F) rfl (so_nm (i := 8) rfl (.inl rfl)))) sa_nil))))) (sw_or1 (st_not (st_val (sd_call (ok_is_behind F) (hr.mono (by decide)) rfl F.g_is_behind cx_takes (sa_cons (so_nm (i := 3) rfl (.inl rfl)) (sa_cons (so_nm (i := 6) rfl (.inl rfl)) sa_nil))))))))) (ss_one ss_bad) ss_nil)))
  (ss_cons (ss_setF (fl_week F) (so_nm (i := 0) rfl (.inl rfl)) (so_nm (i := 1) rfl (.inl rfl)))
  (ss_cons (ss_setF (fl_rooms F) (so_nm (i := 0) rfl (.inl rfl)) (so_nm (i := 2) rfl (.inl rfl)))
  (ss_cons (ss_setF (fl_people F) (so_nm (i := 0) rfl (.inl rfl)) (so_nm (i := 3) rfl (.inl rfl)))
  (ss_cons (ss_setF (fl_room_named F) (so_nm (i := 0) rfl (.inl rfl)) (so_ex (se_fg [7] (se_dc rfl nd (blkOk_by (own := [("room", 7)]) rfl) (by decide) (by decide) (si_seq (so_nm (i := 2) rfl (.inl rfl))) (fun _ _ _ _ _ => (sg_nm (i := 7) nd rfl (.inl rfl))) (fun _ _ _ _ _ => sts_nil) (fun _ _ _ _ _ => (se_fl (fl_name F) rfl (so_nm (i := 7) rfl (.inl rfl)))) (fun _ _ _ _ _ => (se_rd (i := 7) rfl (.inl rfl)))))))
  (ss_cons (ss_setF (fl_person_named F) (so_nm (i := 0) rfl (.inl rfl)) (so_ex (se_fg [8] (se_dc rfl nd (blkOk_by (own := [("person", 8)]) rfl) (by decide) (by decide) (si_seq (so_nm (i := 3) rfl (.inl rfl))) (fun _ _ _ _ _ => (sg_nm (i := 8) nd rfl (.inl rfl))) (fun _ _ _ _ _ => sts_nil) (fun _ _ _ _ _ => (se_fl (fl_name F) rfl (so_nm (i := 8) rfl (.inl rfl)))) (fun _ _ _ _ _ => (se_rd (i := 8) rfl (.inl rfl)))))))
  (ss_cons (ss_drop (sd_meth (c := "Book") F.cls_Book F.me_Book_put_lessons (ok_Book_put_lessons F) (hr.mono (by decide)) (so_nm (i := 0) rfl (.inl rfl)) (sa_cons (so_nm (i := 4) rfl (.inl rfl)) sa_nil)))
  (ss_one (ss_drop (sd_meth (c := "Book") F.cls_Book F.me_Book_put_rules (ok_Book_put_rules F) (hr.mono (by decide)) (so_nm (i := 0) rfl (.inl rfl)) (sa_cons (so_nm (i := 5) rfl (.inl rfl)) sa_nil)))))))))))))))
def f_Book_init : Fn := mkFn 9 6 m_Book_init
theorem ok_Book_init (F : Fx P w K mg base) : Df P w K mg base tabs 6 (He.fAd K ("Book", some "__init__")) ["self", "week", "rooms", "people", "lessons", "rules"] f_Book_init := df_of F.fd_Book_init (fs_by rfl) rfl rfl (fun _ _ _ _ _ _ us hl => match us, hl with | [_, _, _, _, _, _], _ => rfl) (b_Book_init F)
def m_law_hand : M Fl := (mSeq (mSet 1 (mLc [2] (itS (.ex (mN [(.nm 0), (.ex (mC (.int 63)))] gSlH))) (setN 2) mTrue (mN [(.ex (mN [(.nm 2)] gInt))] gAbs)))
  (mRet (mN [(.ex (mLk 1)), (.ex (mC (.int 0))), (.ex (mC (.int 0))), (.ex (mN [(.ex (mC (.int 107))), (.ex (mN [(.ex (mC (.int 19))), (.ex (mN [(.nm 1)] gLen))] (gI2c cMul fun i j => .int (i * j))))] (gI2 fun i j => .int (i + j)))), (.ex (mC (.int 0)))] gLst)))
abbrev X_law_hand (P : Program) (w : World) (K : PySem.W.Frag) (mg : Str → Option Value) (base : Heap) (cdv : Value) (A : Around) (outer : List Env) (s : Shared) (H : Hp) (E : XK) : Cx := Xc P w K mg base ["script", "cells", "cell"] "_law_hand" (defScope (top 50)) (He.fAd K ("_law_hand", none)) cdv A outer s H E
theorem b_law_hand (F : Fx P w K mg base) (cdv : Value) (bor : List Addr) (A : Around) (outer : List Env) (s : Shared) (H : Hp) (E : XK) (hr : Room 0 (A.deeper (envOfC "_law_hand" (defScope (top 50)) s.heap.objs.size (He.fAd K ("_law_hand", none)) cdv))) :
    SB (X_law_hand P w K mg base cdv A outer s H E) ⟨tabs, bor⟩ (We E) (defBody (top 50)) m_law_hand := by
  have nd : (["script", "cells", "cell"] : List Str).Nodup := by decide
  exact (ss_cons (ss_setLc (i := 1) rfl nd rfl rfl (sw_true rfl rfl rfl rfl) (blkOk_by (own := [("cell", 2)]) rfl) (by decide) (by decide) (si_seq (so_ex (se_slH (so_nm (i := 0) rfl (.inl rfl)) (so_ex se_int)))) (fun _ _ _ _ _ => (sg_nm (i := 2) nd rfl (.inl rfl))) (fun _ _ _ _ _ => sts_nil) (fun _ _ _ _ _ => (se_abs rfl F.n_abs (sa_cons (so_ex (se_int1 rfl F.n_int (sa_cons (so_nm (i := 2) rfl (.inl rfl)) sa_nil))) sa_nil))))
  (ss_one (ss_ret (se_lst (sa_cons (so_ex (se_lk (i := 1) rfl (.inl rfl))) (sa_cons (so_ex se_int) (sa_cons (so_ex se_int) (sa_cons (so_ex (se_add (so_ex se_int) (so_ex (se_mul (so_ex se_int) (so_ex (se_len rfl F.n_len (sa_cons (so_nm (i := 1) rfl (.inl rfl)) sa_nil))))))) (sa_cons (so_ex se_int) sa_nil)))))))))
def f_law_hand : Fn := mkFn 3 1 m_law_hand
theorem ok_law_hand (F : Fx P w K mg base) : Df P w K mg base tabs 1 (He.fAd K ("_law_hand", none)) ["script"] f_law_hand := df_of F.fd_law_hand (fs_by rfl) rfl rfl (fun _ _ _ _ _ _ us hl => match us, hl with | [_], _ => rfl) (b_law_hand F)
def m_law_draw : M Fl := (mSeq (mIfS (mAnd (mTest (mN [(.ex (mN [(.nm 0), (.ex (mC (.int 2)))] gAt)), (.ex (mC (.int 0)))] (gEq false))) (mTest (mN [(.ex (mN [(.nm 0), (.ex (mC (.int 1)))] gAt)), (.ex (mN [(.ex (mN [(.nm 0), (.ex (mC (.int 0)))] gAt))] gLen))] gLt))) (mSeq (mSet 2 (mN [(.ex (mN [(.nm 0), (.ex (mC (.int 0)))] gAt)), (.ex (mN [(.nm 0), (.ex (mC (.int 1)))] gAt))] gAt))
  (mSeq (mN [(.ex (mN [(.ex (mN [(.nm 0), (.ex (mC (.int 1)))] gAt)), (.ex (mC (.int 1)))] (gI2 fun i j => .int (i + j)))), (.nm 0), (.ex (mC (.int 1)))] gSetI)
  (mSeq (mN [(.ex (mN [(.ex (mN [(.ex (mN [(.ex (mN [(.ex (mN [(.ex (mN [(.nm 0), (.ex (mC (.int 3)))] gAt)), (.ex (mC (.int 69621)))] (gI2c cMul fun i j => .int (i * j)))), (.ex (mN [(.nm 2), (.ex (mC (.int 48271)))] (gI2c cMul fun i j => .int (i * j))))] (gI2 fun i j => .int (i + j)))), (.ex (mC (.int 17)))] (gI2 fun i j => .int (i + j))))] gInt)), (.ex (mC (.int 2147483629)))] (gI2c cMod fun i j => .int (i % j)))), (.nm 0), (.ex (mC (.int 3)))] gSetI)
  (mIfS (mTest (mN [(.nm 2), (.ex (mN [(.ex (mC (.int 10))), (.ex (mC (.int 18)))] (gI2c cPow fun i j => .int (i ^ j.toNat))))] (gI2 fun i j => .bl (decide (j ≤ i))))) (mN [(.nm 2), (.nm 0), (.ex (mC (.int 2)))] gSetI) mNx)))) mNx)
  (mSeq (mIfS (mTest (mN [(.ex (mN [(.nm 0), (.ex (mC (.int 2)))] gAt)), (.ex (mC (.int 0)))] (gI2 fun i j => .bl (decide (j < i))))) (mSeq (mSet 3 (mN [(.ex (mN [(.ex (mN [(.nm 0), (.ex (mC (.int 2)))] gAt))] gInt)), (.nm 1)] (gI2c cMod fun i j => .int (i % j))))
  (mSeq (mN [(.ex (mN [(.ex (mN [(.nm 0), (.ex (mC (.int 2)))] gAt)), (.nm 1)] (gI2c cDiv fun i j => .int (i / j)))), (.nm 0), (.ex (mC (.int 2)))] gSetI)
  (mRet (mRd 3)))) mNx)
  (mSeq (mN [(.ex (mN [(.ex (mN [(.nm 0), (.ex (mC (.int 4)))] gAt)), (.ex (mC (.int 1)))] (gI2 fun i j => .int (i + j)))), (.nm 0), (.ex (mC (.int 4)))] gSetI)
  (mSeq (mSet 4 (mN [(.ex (mN [(.ex (mN [(.ex (mN [(.ex (mN [(.ex (mN [(.nm 0), (.ex (mC (.int 3)))] gAt)), (.ex (mN [(.ex (mC (.int 7919))), (.ex (mN [(.nm 0), (.ex (mC (.int 4)))] gAt))] (gI2c cMul fun i j => .int (i * j))))] (gI2 fun i j => .int (i + j))))] gInt)), (.ex (mC (.int 40692)))] (gI2c cMul fun i j => .int (i * j))))] gInt)), (.ex (mC (.int 2147483647)))] (gI2c cMod fun i j => .int (i % j))))
  (mSeq (mSet 4 (mN [(.ex (mN [(.ex (mN [(.nm 4), (.ex (mN [(.ex (mN [(.nm 4), (.ex (mC (.int 1009)))] (gI2c cDiv fun i j => .int (i / j)))), (.ex (mC (.int 69621)))] (gI2 fun i j => .int (i + j))))] (gI2c cMul fun i j => .int (i * j))))] gInt)), (.ex (mC (.int 2147483647)))] (gI2c cMod fun i j => .int (i % j))))
  (mSeq (mSet 4 (mN [(.ex (mN [(.ex (mN [(.nm 4), (.ex (mN [(.ex (mN [(.nm 4), (.ex (mC (.int 2003)))] (gI2c cDiv fun i j => .int (i / j)))), (.ex (mC (.int 40014)))] (gI2 fun i j => .int (i + j))))] (gI2c cMul fun i j => .int (i * j))))] gInt)), (.ex (mC (.int 2147483563)))] (gI2c cMod fun i j => .int (i % j))))
  (mRet (mN [(.ex (mN [(.ex (mN [(.nm 4), (.ex (mC (.int 16)))] (gI2c cDiv fun i j => .int (i / j))))] gInt)), (.nm 1)] (gI2c cMod fun i j => .int (i % j))))))))))
abbrev X_law_draw (P : Program) (w : World) (K : PySem.W.Frag) (mg : Str → Option Value) (base : Heap) (cdv : Value) (A : Around) (outer : List Env) (s : Shared) (H : Hp) (E : XK) : Cx := Xc P w K mg base ["hand", "many", "cell", "digit", "number"] "_law_draw" (defScope (top 51)) (He.fAd K ("_law_draw", none)) cdv A outer s H E
theorem b_law_draw (F : Fx P w K mg base) (cdv : Value) (bor : List Addr) (A : Around) (outer : List Env) (s : Shared) (H : Hp) (E : XK) (hr : Room 0 (A.deeper (envOfC "_law_draw" (defScope (top 51)) s.heap.objs.size (He.fAd K ("_law_draw", none)) cdv))) :
    SB (X_law_draw P w K mg base cdv A outer s H E) ⟨tabs, bor⟩ (We E) (defBody (top 51)) m_law_draw := by
  have nd : (["hand", "many", "cell", "digit", "number"] : List Str).Nodup := by decide
  exact (ss_cons (ss_if (st_bool (sw_and (st_eq hr.units (so_ex (se_at (fun _ _ => rfl) (so_nm (i := 0) rfl (.inl rfl)) (so_ex se_int))) (so_ex se_int)) (sw_and1 (st_lt (so_ex (se_at (fun _ _ => rfl) (so_nm (i := 0) rfl (.inl rfl)) (so_ex se_int))) (so_ex (se_len rfl F.n_len (sa_cons (so_ex (se_at (fun _ _ => rfl) (so_nm (i := 0) rfl (.inl rfl)) (so_ex se_int))) sa_nil))))))) (ss_cons (ss_set (i := 2) nd rfl (.inl rfl) (se_at (fun _ _ => rfl) (so_ex (se_at (fun _ _ => rfl) (so_nm (i := 0) rfl (.inl rfl)) (so_ex se_int))) (so_ex (se_at (fun _ _ => rfl) (so_nm (i := 0) rfl (.inl rfl)) (so_ex se_int)))))
  (ss_cons (ss_setI (so_ex (se_add (so_ex (se_at (fun _ _ => rfl) (so_nm (i := 0) rfl (.inl rfl)) (so_ex se_int))) (so_ex se_int))) (so_nm (i := 0) rfl (.inl rfl)) (so_ex se_int))
  (ss_cons (ss_setI (so_ex (se_mod (so_ex (se_int1 rfl F.n_int (sa_cons (so_ex (se_add (so_ex (se_add (so_ex (se_mul (so_ex (se_at (fun _ _ => rfl) (so_nm (i := 0) rfl (.inl rfl)) (so_ex se_int))) (so_ex se_int))) (so_ex (se_mul (so_nm (i := 2) rfl (.inl rfl)) (so_ex se_int))))) (so_ex se_int))) sa_nil))) (so_ex se_int))) (so_nm (i := 0) rfl (.inl rfl)) (so_ex se_int))
  (ss_one (ss_if (st_ge (so_nm (i := 2) rfl (.inl rfl)) (so_ex (se_pow (so_ex se_int) (so_ex se_int)))) (ss_one (ss_setI (so_nm (i := 2) rfl (.inl rfl)) (so_nm (i := 0) rfl (.inl rfl)) (so_ex se_int))) ss_nil))))) ss_nil)
  (ss_cons (ss_if (st_gt (so_ex (se_at (fun _ _ => rfl) (so_nm (i := 0) rfl (.inl rfl)) (so_ex se_int))) (so_ex se_int)) (ss_cons (ss_set (i := 3) nd rfl (.inl rfl) (se_mod (so_ex (se_int1 rfl F.n_int (sa_cons (so_ex (se_at (fun _ _ => rfl) (so_nm (i := 0) rfl (.inl rfl)) (so_ex se_int))) sa_nil))) (so_nm (i := 1) rfl (.inl rfl))))
  (ss_cons (ss_setI (so_ex (se_fdiv (so_ex (se_at (fun _ _ => rfl) (so_nm (i := 0) rfl (.inl rfl)) (so_ex se_int))) (so_nm (i := 1) rfl (.inl rfl)))) (so_nm (i := 0) rfl (.inl rfl)) (so_ex se_int))
  (ss_one (ss_ret (se_rd (i := 3) rfl (.inl rfl)))))) ss_nil)
  (ss_cons (ss_setI (so_ex (se_add (so_ex (se_at (fun _ _ => rfl) (so_nm (i := 0) rfl (.inl rfl)) (so_ex se_int))) (so_ex se_int))) (so_nm (i := 0) rfl (.inl rfl)) (so_ex se_int))
  (ss_cons (ss_set (i := 4) nd rfl (.inl rfl) (se_mod (so_ex (se_int1 rfl F.n_int (sa_cons (so_ex (se_mul (so_ex (se_int1 rfl F.n_int (sa_cons (so_ex (se_add (so_ex (se_at (fun _ _ => rfl) (so_nm (i := 0) rfl (.inl rfl)) (so_ex se_int))) (so_ex (se_mul (so_ex se_int) (so_ex (se_at (fun _ _ => rfl) (so_nm (i := 0) rfl (.inl rfl)) (so_ex se_int))))))) sa_nil))) (so_ex se_int))) sa_nil))) (so_ex se_int)))
  (ss_cons (ss_set (i := 4) nd rfl (.inl rfl) (se_mod (so_ex (se_int1 rfl F.n_int (sa_cons (so_ex (se_mul (so_nm (i := 4) rfl (.inl rfl)) (so_ex (se_add (so_ex (se_fdiv (so_nm (i := 4) rfl (.inl rfl)) (so_ex se_int))) (so_ex se_int))))) sa_nil))) (so_ex se_int)))
  (ss_cons (ss_set (i := 4) nd rfl (.inl rfl) (se_mod (so_ex (se_int1 rfl F.n_int (sa_cons (so_ex (se_mul (so_nm (i := 4) rfl (.inl rfl)) (so_ex (se_add (so_ex (se_fdiv (so_nm (i := 4) rfl (.inl rfl)) (so_ex se_int))) (so_ex se_int))))) sa_nil))) (so_ex se_int)))
  (ss_one (ss_ret (se_mod (so_ex (se_int1 rfl F.n_int (sa_cons (so_ex (se_fdiv (so_nm (i := 4) rfl (.inl rfl)) (so_ex se_int))) sa_nil))) (so_nm (i := 1) rfl (.inl rfl)))))))))))
def f_law_draw : Fn := mkFn 5 2 m_law_draw
theorem ok_law_draw (F : Fx P w K mg base) : Df P w K mg base tabs 1 (He.fAd K ("_law_draw", none)) ["hand", "many"] f_law_draw := df_of F.fd_law_draw (fs_by rfl) rfl rfl (fun _ _ _ _ _ _ us hl => match us, hl with | [_, _], _ => rfl) (b_law_draw F)
def m_law_any : M Fl := (mRet (mN [(.nm 1), (.ex (mCall (f_law_draw) [(.nm 0), (.ex (mN [(.nm 1)] gLen))]))] gAt))
abbrev X_law_any (P : Program) (w : World) (K : PySem.W.Frag) (mg : Str → Option Value) (base : Heap) (cdv : Value) (A : Around) (outer : List Env) (s : Shared) (H : Hp) (E : XK) : Cx := Xc P w K mg base ["hand", "some"] "_law_any" (defScope (top 52)) (He.fAd K ("_law_any", none)) cdv A outer s H E
theorem b_law_any (F : Fx P w K mg base) (cdv : Value) (bor : List Addr) (A : Around) (outer : List Env) (s : Shared) (H : Hp) (E : XK) (hr : Room 1 (A.deeper (envOfC "_law_any" (defScope (top 52)) s.heap.objs.size (He.fAd K ("_law_any", none)) cdv))) :
    SB (X_law_any P w K mg base cdv A outer s H E) ⟨tabs, bor⟩ (We E) (defBody (top 52)) m_law_any := by
  have nd : (["hand", "some"] : List Str).Nodup := by decide
  exact (ss_one (ss_ret (se_at (fun _ _ => rfl) (so_nm (i := 1) rfl (.inl rfl)) (so_ex (sd_call (ok_law_draw F) (hr.mono (by decide)) rfl F.g__law_draw cx_takes (sa_cons (so_nm (i := 0) rfl (.inl rfl)) (sa_cons (so_ex (se_len rfl F.n_len (sa_cons (so_nm (i := 1) rfl (.inl rfl)) sa_nil))) sa_nil)))))))
def f_law_any : Fn := mkFn 2 2 m_law_any
theorem ok_law_any (F : Fx P w K mg base) : Df P w K mg base tabs 2 (He.fAd K ("_law_any", none)) ["hand", "some"] f_law_any := df_of F.fd_law_any (fs_by rfl) rfl rfl (fun _ _ _ _ _ _ us hl => match us, hl with | [_, _], _ => rfl) (b_law_any F)
def m_law_is (fr : Fn) : M Fl := (mSeq (mIfS (mTest (mN [(.nm 1)] (gIsT2 [] .tuple .list))) (mSeq (mIfS (mOr (mTest (mN [(.ex (mN [(.nm 0)] (gIsT [] .tuple))), (.ex (mN [(.nm 1)] (gIsT [] .tuple)))] (gEq true))) (mTest (mN [(.ex (mN [(.nm 0)] (gIsT [] .list))), (.ex (mN [(.nm 1)] (gIsT [] .list)))] (gEq true)))) (mRet (mC (.bl false))) mNx)
  (mRet (mB (mAnd (mTest (mN [(.ex (mN [(.nm 0)] gLen)), (.ex (mN [(.nm 1)] gLen))] (gEq false))) (mTest (mN [(.ex (mLc [2, 3] (itZ2 (.nm 0) (.nm 1)) (setT [2, 3]) mTrue (mCall fr [(.nm 2), (.nm 3)])))] gAll)))))) mNx)
  (mSeq (mIfS (mOr (mTest (mN [(.ex (mN [(.nm 0)] (gIsT [] .bool))), (.ex (mN [(.nm 1)] (gIsT [] .bool)))] (gEq true))) (mTest (mN [(.ex (mN [(.nm 0)] (gIsT [] .int))), (.ex (mN [(.nm 1)] (gIsT [] .int)))] (gEq true)))) (mRet (mC (.bl false))) mNx)
  (mRet (mN [(.nm 0), (.nm 1)] (gEq false)))))
abbrev X_law_is (P : Program) (w : World) (K : PySem.W.Frag) (mg : Str → Option Value) (base : Heap) (cdv : Value) (A : Around) (outer : List Env) (s : Shared) (H : Hp) (E : XK) : Cx := Xc P w K mg base ["thing", "due", "one", "other"] "_law_is" (defScope (top 53)) (He.fAd K ("_law_is", none)) cdv A outer s H E
theorem b_law_is (F : Fx P w K mg base) {k : Nat} {fr : Fn} (D : Df P w K mg base tabs k (He.fAd K ("_law_is", none)) ["thing", "due"] fr) (hk : 0 ≤ k) (cdv : Value) (bor : List Addr) (A : Around) (outer : List Env) (s : Shared) (H : Hp) (E : XK) (hr : Room k (A.deeper (envOfC "_law_is" (defScope (top 53)) s.heap.objs.size (He.fAd K ("_law_is", none)) cdv))) :
    SB (X_law_is P w K mg base cdv A outer s H E) ⟨tabs, bor⟩ (We E) (defBody (top 53)) (m_law_is fr) := by
  have nd : (["thing", "due", "one", "other"] : List Str).Nodup := by decide
  exact (ss_cons (ss_if (st_val (se_isT2 (n := "tuple") (n' := "list") (t := .tuple) (t' := .list) (cs := []) rfl (by decide) (by decide) rfl (by decide) (by decide) (fun _ z => nomatch z) rfl F.n_isinstance rfl F.n_tuple rfl F.n_list (so_nm (i := 1) rfl (.inl rfl)))) (ss_cons (ss_if (st_bool (sw_or (st_ne hr.units (so_ex (se_isT (n := "tuple") (t := .tuple) (cs := []) rfl (by decide) (by decide) (fun _ z => nomatch z) rfl F.n_isinstance rfl F.n_tuple (so_nm (i := 0) rfl (.inl rfl)))) (so_ex (se_isT (n := "tuple") (t := .tuple) (cs := []) rfl (by decide) (by decide) (fun _ z => nomatch z) rfl F.n_isinstance rfl F.n_tuple (so_nm (i := 1) rfl (.inl rfl))))) (sw_or1 (st_ne hr.units (so_ex (se_isT (n := "list") (t := .list) (cs := []) rfl (by decide) (by decide) (fun _ z => nomatch z) rfl F.n_isinstance rfl F.n_list (so_nm (i := 0) rfl (.inl rfl)))) (so_ex (se_isT (n := "list") (t := .list) (cs := []) rfl (by decide) (by decide) (fun _ z => nomatch z) rfl F.n_isinstance rfl F.n_list (so_nm (i := 1) rfl (.inl rfl)))))))) (ss_one (ss_ret se_bl)) ss_nil)
  (ss_one (ss_ret (se_B (sv_and (sv_val (se_eq hr.units (so_ex (se_len rfl F.n_len (sa_cons (so_nm (i := 0) rfl (.inl rfl)) sa_nil))) (so_ex (se_len rfl F.n_len (sa_cons (so_nm (i := 1) rfl (.inl rfl)) sa_nil))))) (sv_one (sv_val (se_all rfl rfl F.n_all (sa_cons (so_ex (se_lc rfl nd (blkOk_by (own := [("one", 2), ("other", 3)]) rfl) (by decide) (by decide) (si_zip2 rfl F.n_zip (sa_cons (so_nm (i := 0) rfl (.inl rfl)) (sa_cons (so_nm (i := 1) rfl (.inl rfl)) sa_nil))) (fun _ _ _ _ _ => (sg_tup rfl (sgs_cons (i := 2) nd rfl (.inl rfl) (sgs_cons (i := 3) nd rfl (.inl rfl) sgs_nil)))) (fun _ _ _ _ _ => sts_nil) (fun _ _ _ _ _ => (sd_call D hr rfl F.g__law_is LamX.takes0 (sa_cons (so_nm (i := 2) rfl (.inl rfl)) (sa_cons (so_nm (i := 3) rfl (.inl rfl)) sa_nil)))))) sa_nil))))))))) ss_nil)
  (ss_cons (ss_if (st_bool (sw_or (st_ne hr.units (so_ex (se_isT (n := "bool") (t := .bool) (cs := []) rfl (by decide) (by decide) (fun _ z => nomatch z) rfl F.n_isinstance rfl F.n_bool (so_nm (i := 0) rfl (.inl rfl)))) (so_ex (se_isT (n := "bool") (t := .bool) (cs := []) rfl (by decide) (by decide) (fun _ z => nomatch z) rfl F.n_isinstance rfl F.n_bool (so_nm (i := 1) rfl (.inl rfl))))) (sw_or1 (st_ne hr.units (so_ex (se_isT (n := "int") (t := .int) (cs := []) rfl (by decide) (by decide) (fun _ z => nomatch z) rfl F.n_isinstance rfl F.n_int (so_nm (i := 0) rfl (.inl rfl)))) (so_ex (se_isT (n := "int") (t := .int) (cs := []) rfl (by decide) (by decide) (fun _ z => nomatch z) rfl F.n_isinstance rfl F.n_int (so_nm (i := 1) rfl (.inl rfl)))))))) (ss_one (ss_ret se_bl)) ss_nil)
  (ss_one (ss_ret (se_eq hr.units (so_nm (i := 0) rfl (.inl rfl)) (so_nm (i := 1) rfl (.inl rfl)))))))
def f_law_is : Nat → Fn
  | 0 => fun _ _ => .bad
  | n + 1 => mkFn 4 2 (m_law_is (f_law_is n))
theorem oks_law_is (F : Fx P w K mg base) : ∀ n : Nat, Df P w K mg base tabs (n + 0) (He.fAd K ("_law_is", none)) ["thing", "due"] (f_law_is n)
  | 0 => df_bad F.fd_law_is (fun _ _ _ _ _ _ us hl => match us, hl with | [_, _], _ => rfl)
  | n + 1 => df_of F.fd_law_is (fs_by rfl) rfl rfl (fun _ _ _ _ _ _ us hl => match us, hl with | [_, _], _ => rfl) (b_law_is F (oks_law_is F n) (by omega))
theorem ok_law_is (F : Fx P w K mg base) (n : Nat) : Df P w K mg base tabs (n + 0) (He.fAd K ("_law_is", none)) ["thing", "due"] (f_law_is n) := oks_law_is F n
def m_law_some : M Fl := (mRet (mN [(.ex (mLc [3] (itS (.nm 1)) (setN 3) (mTest (mN [(.ex (mCall (f_law_draw) [(.nm 0), (.nm 2)])), (.ex (mC (.int 0)))] (gEq false))) (mRd 3)))] gTuple))
abbrev X_law_some (P : Program) (w : World) (K : PySem.W.Frag) (mg : Str → Option Value) (base : Heap) (cdv : Value) (A : Around) (outer : List Env) (s : Shared) (H : Hp) (E : XK) : Cx := Xc P w K mg base ["hand", "things", "share", "one"] "_law_some" (defScope (top 54)) (He.fAd K ("_law_some", none)) cdv A outer s H E
theorem b_law_some (F : Fx P w K mg base) (cdv : Value) (bor : List Addr) (A : Around) (outer : List Env) (s : Shared) (H : Hp) (E : XK) (hr : Room 1 (A.deeper (envOfC "_law_some" (defScope (top 54)) s.heap.objs.size (He.fAd K ("_law_some", none)) cdv))) :
    SB (X_law_some P w K mg base cdv A outer s H E) ⟨tabs, bor⟩ (We E) (defBody (top 54)) m_law_some := by
  have nd : (["hand", "things", "share", "one"] : List Str).Nodup := by decide
  exact (ss_one (ss_ret (se_tuple rfl F.n_tuple (sa_cons (so_ex (se_lc rfl nd (blkOk_by (own := [("one", 3)]) rfl) (by decide) (by decide) (si_seq (so_nm (i := 1) rfl (.inl rfl))) (fun _ _ _ _ _ => (sg_nm (i := 3) nd rfl (.inl rfl))) (fun _ _ _ _ _ => (sts_one (st_eq hr.units (so_ex (sd_call (ok_law_draw F) (hr.mono (by decide)) rfl F.g__law_draw LamX.takes0 (sa_cons (so_nm (i := 0) rfl (.inr (.inl rfl))) (sa_cons (so_nm (i := 2) rfl (.inr (.inl rfl))) sa_nil)))) (so_ex se_int)))) (fun _ _ _ _ _ => (se_rd (i := 3) rfl (.inl rfl))))) sa_nil))))
def f_law_some : Fn := mkFn 4 3 m_law_some
theorem ok_law_some (F : Fx P w K mg base) : Df P w K mg base tabs 2 (He.fAd K ("_law_some", none)) ["hand", "things", "share"] f_law_some := df_of F.fd_law_some (fs_by rfl) rfl rfl (fun _ _ _ _ _ _ us hl => match us, hl with | [_, _, _], _ => rfl) (b_law_some F)
def m_law_rule : M Fl := (mSeq (mSet 2 (mCall (f_law_draw) [(.nm 0), (.ex (mN [(.nm 1)] gLen))]))
  (mSeq (mSet 3 (mN [(.ex (mN [(.ex (mN [(.ex (mN [(.nm 2), (.ex (mC (.int 1)))] (gI2 fun i j => .int (i + j)))), (.ex (mCall (f_law_draw) [(.nm 0), (.ex (mN [(.ex (mN [(.nm 1)] gLen)), (.ex (mC (.int 1)))] (gI2 fun i j => .int (i - j))))]))] (gI2 fun i j => .int (i + j))))] gInt)), (.ex (mN [(.nm 1)] gLen))] (gI2c cMod fun i j => .int (i % j))))
  (mSeq (mSet 4 (mCall (f_law_any) [(.nm 0), (.ex (mN [(.ex (mC (.str "apart"))), (.ex (mC (.str "same"))), (.ex (mC (.str "ahead"))), (.ex (mC (.str "together"))), (.ex (mC (.str "next"))), (.ex (mC (.str "gap"))), (.ex (mC (.str "most")))] gLst))]))
  (mSeq (mIfS (mTest (mN [(.nm 4), (.ex (mC (.str "most")))] (gEq false))) (mSeq (mSet 5 (mN [(.ex (mN [(.ex (mN [(.nm 1), (.nm 2)] gAt)), (.ex (mN [(.nm 1), (.nm 3)] gAt)), (.ex (mCall (f_law_any) [(.nm 0), (.nm 1)]))] gLst))] gSortSet))
  (mRet (mN [(.nm 4), (.ex (mN [(.nm 5)] gTuple)), (.ex (mN [(.ex (mC (.int 1))), (.ex (mCall (f_law_draw) [(.nm 0), (.ex (mC (.int 2)))]))] (gI2 fun i j => .int (i + j))))] gTup))) mNx)
  (mRet (mN [(.ex (mN [(.nm 4), (.ex (mN [(.nm 1), (.nm 2)] gAt)), (.ex (mN [(.nm 1), (.nm 3)] gAt))] gTup)), (.ex (mIf (mTest (mN [(.nm 4), (.ex (mC (.str "gap")))] (gEq false))) (mN [(.ex (mN [(.ex (mC (.int 1))), (.ex (mCall (f_law_draw) [(.nm 0), (.ex (mC (.int 2)))]))] (gI2 fun i j => .int (i + j))))] gTup) (mN [] gTup)))] gCatT))))))
abbrev X_law_rule (P : Program) (w : World) (K : PySem.W.Frag) (mg : Str → Option Value) (base : Heap) (cdv : Value) (A : Around) (outer : List Env) (s : Shared) (H : Hp) (E : XK) : Cx := Xc P w K mg base ["hand", "names", "e", "f", "word", "lot"] "_law_rule" (defScope (top 55)) (He.fAd K ("_law_rule", none)) cdv A outer s H E
theorem b_law_rule (F : Fx P w K mg base) (cdv : Value) (bor : List Addr) (A : Around) (outer : List Env) (s : Shared) (H : Hp) (E : XK) (hr : Room 2 (A.deeper (envOfC "_law_rule" (defScope (top 55)) s.heap.objs.size (He.fAd K ("_law_rule", none)) cdv))) :
    SB (X_law_rule P w K mg base cdv A outer s H E) ⟨tabs, bor⟩ (We E) (defBody (top 55)) m_law_rule := by
  have nd : (["hand", "names", "e", "f", "word", "lot"] : List Str).Nodup := by decide
  exact (ss_cons (ss_set (i := 2) nd rfl (.inl rfl) (sd_call (ok_law_draw F) (hr.mono (by decide)) rfl F.g__law_draw cx_takes (sa_cons (so_nm (i := 0) rfl (.inl rfl)) (sa_cons (so_ex (se_len rfl F.n_len (sa_cons (so_nm (i := 1) rfl (.inl rfl)) sa_nil))) sa_nil))))
  (ss_cons (ss_set (i := 3) nd rfl (.inl rfl) (se_mod (so_ex (se_int1 rfl F.n_int (sa_cons (so_ex (se_add (so_ex (se_add (so_nm (i := 2) rfl (.inl rfl)) (so_ex se_int))) (so_ex (sd_call (ok_law_draw F) (hr.mono (by decide)) rfl F.g__law_draw cx_takes (sa_cons (so_nm (i := 0) rfl (.inl rfl)) (sa_cons (so_ex (se_sub (so_ex (se_len rfl F.n_len (sa_cons (so_nm (i := 1) rfl (.inl rfl)) sa_nil))) (so_ex se_int))) sa_nil)))))) sa_nil))) (so_ex (se_len rfl F.n_len (sa_cons (so_nm (i := 1) rfl (.inl rfl)) sa_nil)))))
  (ss_cons (ss_set (i := 4) nd rfl (.inl rfl) (sd_call (ok_law_any F) (hr.mono (by decide)) rfl F.g__law_any cx_takes (sa_cons (so_nm (i := 0) rfl (.inl rfl)) (sa_cons (so_ex (se_lst (sa_cons (so_ex se_str) (sa_cons (so_ex se_str) (sa_cons (so_ex se_str) (sa_cons (so_ex se_str) (sa_cons (so_ex se_str) (sa_cons (so_ex se_str) (sa_cons (so_ex se_str) sa_nil))))))))) sa_nil))))
  (ss_cons (ss_if (st_eq hr.units (so_nm (i := 4) rfl (.inl rfl)) (so_ex se_str)) (ss_cons (ss_set (i := 5) nd rfl (.inl rfl) (se_sortSet rfl rfl F.n_sorted rfl F.n_set (sa_cons (so_ex (se_lst (sa_cons (so_ex (se_at (fun _ _ => rfl) (so_nm (i := 1) rfl (.inl rfl)) (so_nm (i := 2) rfl (.inl rfl)))) (sa_cons (so_ex (se_at (fun _ _ => rfl) (so_nm (i := 1) rfl (.inl rfl)) (so_nm (i := 3) rfl (.inl rfl)))) (sa_cons (so_ex (sd_call (ok_law_any F) (hr.mono (by decide)) rfl F.g__law_any cx_takes (sa_cons (so_nm (i := 0) rfl (.inl rfl)) (sa_cons (so_nm (i := 1) rfl (.inl rfl)) sa_nil)))) sa_nil))))) sa_nil)))
  (ss_one (ss_ret (se_tup (sa_cons (so_nm (i := 4) rfl (.inl rfl)) (sa_cons (so_ex (se_tuple rfl F.n_tuple (sa_cons (so_nm (i := 5) rfl (.inl rfl)) sa_nil))) (sa_cons (so_ex (se_add (so_ex se_int) (so_ex (sd_call (ok_law_draw F) (hr.mono (by decide)) rfl F.g__law_draw cx_takes (sa_cons (so_nm (i := 0) rfl (.inl rfl)) (sa_cons (so_ex se_int) sa_nil)))))) sa_nil))))))) ss_nil)
  (ss_one (ss_ret (se_catT (so_ex (se_tup (sa_cons (so_nm (i := 4) rfl (.inl rfl)) (sa_cons (so_ex (se_at (fun _ _ => rfl) (so_nm (i := 1) rfl (.inl rfl)) (so_nm (i := 2) rfl (.inl rfl)))) (sa_cons (so_ex (se_at (fun _ _ => rfl) (so_nm (i := 1) rfl (.inl rfl)) (so_nm (i := 3) rfl (.inl rfl)))) sa_nil))))) (so_ex (se_if (st_eq hr.units (so_nm (i := 4) rfl (.inl rfl)) (so_ex se_str)) (se_tup (sa_cons (so_ex (se_add (so_ex se_int) (so_ex (sd_call (ok_law_draw F) (hr.mono (by decide)) rfl F.g__law_draw cx_takes (sa_cons (so_nm (i := 0) rfl (.inl rfl)) (sa_cons (so_ex se_int) sa_nil)))))) sa_nil)) (se_tup sa_nil))))))))))
def f_law_rule : Fn := mkFn 6 2 m_law_rule
theorem ok_law_rule (F : Fx P w K mg base) : Df P w K mg base tabs 3 (He.fAd K ("_law_rule", none)) ["hand", "names"] f_law_rule := df_of F.fd_law_rule (fs_by rfl) rfl rfl (fun _ _ _ _ _ _ us hl => match us, hl with | [_, _], _ => rfl) (b_law_rule F)
def m_law_drawn : M Fl := (mSeq (mPar [3, 4] [(.ex (mN [(.ex (mC (.int 1))), (.ex (mCall (f_law_draw) [(.nm 0), (.ex (mC (.int 2)))]))] (gI2 fun i j => .int (i + j)))), (.ex (mN [(.ex (mC (.int 2))), (.ex (mCall (f_law_draw) [(.nm 0), (.ex (mC (.int 3)))]))] (gI2 fun i j => .int (i + j))))])
  (mSeq (mPar [5, 6, 7] [(.ex (mN [(.ex (mN [(.nm 3), (.nm 4)] (gI2c cMul fun i j => .int (i * j))))] gRng1)), (.ex (mN [] gLst)), (.ex (mN [] gLst))])
  (mSeq (mPar [8, 9] [(.ex (mN [] gLst)), (.ex (mN [] gLst))])
  (mSeq (mFor (itS (.ex (mN [(.ex (mN [(.ex (mC (.str "big"))), (.ex (mC (.str "lab"))), (.ex (mC (.str "red")))] gLst)), (.ex (mN [(.ex (mC (.int 1))), (.ex (mCall (f_law_draw) [(.nm 0), (.ex (mC (.int 2)))]))] (gI2 fun i j => .int (i + j))))] gSlH))) (setN 10) (mSeq (mPar [11, 12] [(.ex (mCall (f_law_any) [(.nm 0), (.ex (mN [(.ex (mC (.int 5))), (.ex (mC (.int 20))), (.ex (mC (.int 20))), (.ex (mC (.int 30)))] gLst))])), (.ex (mCall (f_law_any) [(.nm 0), (.ex (mN [(.ex (mN [] gTup)), (.ex (mN [] gTup)), (.ex (mN [(.ex (mC (.str "pc")))] gTup))] gLst))]))])
  (mDrop (mApp 6 (mN [(.nm 10), (.nm 11), (.nm 12), (.ex (mCall (f_law_some) [(.nm 0), (.nm 5), (.ex (mC (.int 6)))]))] gTup)))))
  (mSeq (mFor (itS (.ex (mN [(.ex (mN [(.ex (mC (.str "ann"))), (.ex (mC (.str "bob"))), (.ex (mC (.str "cat")))] gLst)), (.ex (mCall (f_law_draw) [(.nm 0), (.ex (mC (.int 4)))]))] gSlH))) (setN 10) (mDrop (mApp 7 (mN [(.nm 10), (.ex (mCall (f_law_some) [(.nm 0), (.nm 5), (.ex (mC (.int 7)))])), (.ex (mCall (f_law_any) [(.nm 0), (.ex (mN [(.ex (mC (.int 12))), (.ex (mC (.int 12))), (.ex (mC (.int 3))), (.ex (mC (.int 2))), (.ex (mC (.int 1)))] gLst))]))] gTup))))
  (mSeq (mFor (itS (.ex (mN [(.ex (mN [(.ex (mC (.str "art"))), (.ex (mC (.str "bio"))), (.ex (mC (.str "che"))), (.ex (mC (.str "dut")))] gLst)), (.ex (mN [(.nm 2), (.ex (mCall (f_law_draw) [(.nm 0), (.ex (mN [(.ex (mN [(.nm 1), (.nm 2)] (gI2 fun i j => .int (i - j)))), (.ex (mC (.int 1)))] (gI2 fun i j => .int (i + j))))]))] (gI2 fun i j => .int (i + j))))] gSlH))) (setN 10) (mSeq (mSet 13 (mN [(.ex (mLc [17] (itS (.nm 7)) (setN 17) (mTest (mN [(.ex (mCall (f_law_draw) [(.nm 0), (.ex (mC (.int 2)))])), (.ex (mC (.int 0)))] (gEq false))) (mN [(.nm 17), (.ex (mC (.int 0)))] gAt)))] gTuple))
  (mSeq (mPar [12, 11] [(.ex (mCall (f_law_any) [(.nm 0), (.ex (mN [(.ex (mN [] gTup)), (.ex (mN [] gTup)), (.ex (mN [] gTup)), (.ex (mN [(.ex (mC (.str "pc")))] gTup))] gLst))])), (.ex (mCall (f_law_any) [(.nm 0), (.ex (mN [(.ex (mC (.int 0))), (.ex (mC (.int 0))), (.ex (mC (.int 5))), (.ex (mC (.int 20)))] gLst))]))])
  (mDrop (mApp 8 (mN [(.nm 10), (.ex (mCall (f_law_any) [(.nm 0), (.ex (mN [(.ex (mC (.int 1))), (.ex (mC (.int 1))), (.ex (mC (.int 1))), (.ex (mC (.int 2)))] gLst))])), (.nm 13), (.nm 11), (.nm 12), (.ex (mCall (f_law_some) [(.nm 0), (.nm 5), (.ex (mC (.int 2)))]))] gTup))))))
  (mSeq (mSet 14 (mLc [17] (itS (.nm 8)) (setN 17) mTrue (mN [(.nm 17), (.ex (mC (.int 0)))] gAt)))
  (mSeq (mFor (mN [(.ex (mIf (mTest (mN [(.ex (mN [(.nm 14)] gLen)), (.ex (mC (.int 1)))] (gI2 fun i j => .bl (decide (j < i))))) (mCall (f_law_any) [(.nm 0), (.ex (mN [(.ex (mC (.int 0))), (.ex (mC (.int 1))), (.ex (mC (.int 2))), (.ex (mC (.int 3)))] gLst))]) (mC (.int 0))))] gRI1) (setN 15) (mSeq (mSet 16 (mCall (f_law_rule) [(.nm 0), (.nm 14)]))
  (mIfS (mTest (mN [(.nm 16), (.nm 9)] (gIn true))) (mDrop (mApp 9 (mRd 16))) mNx)))
  (mRet (mN [(.nm 3), (.nm 4), (.ex (mN [(.nm 6)] gTuple)), (.ex (mN [(.nm 7)] gTuple)), (.ex (mN [(.nm 8)] gTuple)), (.ex (mN [(.nm 9)] gTuple))] gTup))))))))))
abbrev X_law_drawn (P : Program) (w : World) (K : PySem.W.Frag) (mg : Str → Option Value) (base : Heap) (cdv : Value) (A : Around) (outer : List Env) (s : Shared) (H : Hp) (E : XK) : Cx := Xc P w K mg base ["hand", "most", "least", "days", "periods", "every", "rooms", "people", "lessons", "rules", "name", "seats", "kinds", "folk", "names", "turn", "rule", "one"] "_law_drawn" (defScope (top 56)) (He.fAd K ("_law_drawn", none)) cdv A outer s H E
theorem b_law_drawn (F : Fx P w K mg base) (cdv : Value) (bor : List Addr) (A : Around) (outer : List Env) (s : Shared) (H : Hp) (E : XK) (hr : Room 3 (A.deeper (envOfC "_law_drawn" (defScope (top 56)) s.heap.objs.size (He.fAd K ("_law_drawn", none)) cdv))) :
    SB (X_law_drawn P w K mg base cdv A outer s H E) ⟨tabs, bor⟩ (We E) (defBody (top 56)) m_law_drawn := by
  have nd : (["hand", "most", "least", "days", "periods", "every", "rooms", "people", "lessons", "rules", "name", "seats", "kinds", "folk", "names", "turn", "rule", "one"] : List Str).Nodup := by decide
  exact (ss_cons (ss_par (i := 3) (j := 4) rfl nd rfl rfl (by decide) rfl rfl (sa_cons (so_ex (se_add (so_ex se_int) (so_ex (sd_call (ok_law_draw F) (hr.mono (by decide)) rfl F.g__law_draw cx_takes (sa_cons (so_nm (i := 0) rfl (.inr (.inl rfl))) (sa_cons (so_ex se_int) sa_nil)))))) (sa_cons (so_ex (se_add (so_ex se_int) (so_ex (sd_call (ok_law_draw F) (hr.mono (by decide)) rfl F.g__law_draw cx_takes (sa_cons (so_nm (i := 0) rfl (.inr (.inl rfl))) (sa_cons (so_ex se_int) sa_nil)))))) sa_nil)) rfl)
  (ss_cons (ss_par3 (i := 5) (j := 6) (l := 7) rfl nd rfl rfl rfl (by decide) (by decide) (by decide) rfl rfl rfl (sa_cons (so_ex (se_listRng (q' := ⟨0, 0, 0, 0⟩) rfl rfl F.n_list rfl F.n_range (sa_cons (so_ex (se_mul (so_nm (i := 3) rfl (.inl rfl)) (so_nm (i := 4) rfl (.inl rfl)))) sa_nil))) (sa_cons (so_ex (se_lst sa_nil)) (sa_cons (so_ex (se_lst sa_nil)) sa_nil))) rfl)
  (ss_cons (ss_par (i := 8) (j := 9) rfl nd rfl rfl (by decide) rfl rfl (sa_cons (so_ex (se_lst sa_nil)) (sa_cons (so_ex (se_lst sa_nil)) sa_nil)) rfl)
  (ss_cons (ss_for (X := X_law_drawn P w K mg base cdv A outer s H E) cx_passes rfl (si_seq (so_ex (se_slH (so_ex (se_lst (sa_cons (so_ex se_str) (sa_cons (so_ex se_str) (sa_cons (so_ex se_str) sa_nil))))) (so_ex (se_add (so_ex se_int) (so_ex (sd_call (ok_law_draw F) (hr.mono (by decide)) rfl F.g__law_draw cx_takes (sa_cons (so_nm (i := 0) rfl (.inr (.inl rfl))) (sa_cons (so_ex se_int) sa_nil))))))))) (sg_nm (i := 10) nd rfl (.inl rfl)) (ss_cons (ss_par (i := 11) (j := 12) rfl nd rfl rfl (by decide) rfl rfl (sa_cons (so_ex (sd_call (ok_law_any F) (hr.mono (by decide)) rfl F.g__law_any cx_takes (sa_cons (so_nm (i := 0) rfl (.inr (.inl rfl))) (sa_cons (so_ex (se_lst (sa_cons (so_ex se_int) (sa_cons (so_ex se_int) (sa_cons (so_ex se_int) (sa_cons (so_ex se_int) sa_nil)))))) sa_nil)))) (sa_cons (so_ex (sd_call (ok_law_any F) (hr.mono (by decide)) rfl F.g__law_any cx_takes (sa_cons (so_nm (i := 0) rfl (.inr (.inl rfl))) (sa_cons (so_ex (se_lst (sa_cons (so_ex (se_tup sa_nil)) (sa_cons (so_ex (se_tup sa_nil)) (sa_cons (so_ex (se_tup (sa_cons (so_ex se_str) sa_nil))) sa_nil))))) sa_nil)))) sa_nil)) rfl)
  (ss_one (ss_drop (se_app (i := 6) rfl (.inl rfl) (se_tup (sa_cons (so_nm (i := 10) rfl (.inl rfl)) (sa_cons (so_nm (i := 11) rfl (.inl rfl)) (sa_cons (so_nm (i := 12) rfl (.inl rfl)) (sa_cons (so_ex (sd_call (ok_law_some F) (hr.mono (by decide)) rfl F.g__law_some cx_takes (sa_cons (so_nm (i := 0) rfl (.inr (.inl rfl))) (sa_cons (so_nm (i := 5) rfl (.inl rfl)) (sa_cons (so_ex se_int) sa_nil))))) sa_nil))))))))))
  (ss_cons (ss_for (X := X_law_drawn P w K mg base cdv A outer s H E) cx_passes rfl (si_seq (so_ex (se_slH (so_ex (se_lst (sa_cons (so_ex se_str) (sa_cons (so_ex se_str) (sa_cons (so_ex se_str) sa_nil))))) (so_ex (sd_call (ok_law_draw F) (hr.mono (by decide)) rfl F.g__law_draw cx_takes (sa_cons (so_nm (i := 0) rfl (.inr (.inl rfl))) (sa_cons (so_ex se_int) sa_nil))))))) (sg_nm (i := 10) nd rfl (.inl rfl)) (ss_one (ss_drop (se_app (i := 7) rfl (.inl rfl) (se_tup (sa_cons (so_nm (i := 10) rfl (.inl rfl)) (sa_cons (so_ex (sd_call (ok_law_some F) (hr.mono (by decide)) rfl F.g__law_some cx_takes (sa_cons (so_nm (i := 0) rfl (.inr (.inl rfl))) (sa_cons (so_nm (i := 5) rfl (.inl rfl)) (sa_cons (so_ex se_int) sa_nil))))) (sa_cons (so_ex (sd_call (ok_law_any F) (hr.mono (by decide)) rfl F.g__law_any cx_takes (sa_cons (so_nm (i := 0) rfl (.inr (.inl rfl))) (sa_cons (so_ex (se_lst (sa_cons (so_ex se_int) (sa_cons (so_ex se_int) (sa_cons (so_ex se_int) (sa_cons (so_ex se_int) (sa_cons (so_ex se_int) sa_nil))))))) sa_nil)))) sa_nil))))))))
  (ss_cons (ss_for (X := X_law_drawn P w K mg base cdv A outer s H E) cx_passes rfl (si_seq (so_ex (se_slH (so_ex (se_lst (sa_cons (so_ex se_str) (sa_cons (so_ex se_str) (sa_cons (so_ex se_str) (sa_cons (so_ex se_str) sa_nil)))))) (so_ex (se_add (so_nm (i := 2) rfl (.inl rfl)) (so_ex (sd_call (ok_law_draw F) (hr.mono (by decide)) rfl F.g__law_draw cx_takes (sa_cons (so_nm (i := 0) rfl (.inr (.inl rfl))) (sa_cons (so_ex (se_add (so_ex (se_sub (so_nm (i := 1) rfl (.inl rfl)) (so_nm (i := 2) rfl (.inl rfl)))) (so_ex se_int))) sa_nil))))))))) (sg_nm (i := 10) nd rfl (.inl rfl)) (ss_cons (ss_set (i := 13) nd rfl (.inl rfl) (se_tuple rfl F.n_tuple (sa_cons (so_ex (se_lc rfl nd (blkOk_by (own := [("one", 17)]) rfl) (by decide) (by decide) (si_seq (so_nm (i := 7) rfl (.inl rfl))) (fun _ _ _ _ _ => (sg_nm (i := 17) nd rfl (.inl rfl))) (fun _ _ _ _ _ => (sts_one (st_eq hr.units (so_ex (sd_call (ok_law_draw F) (hr.mono (by decide)) rfl F.g__law_draw LamX.takes0 (sa_cons (so_nm (i := 0) rfl (.inr (.inl rfl))) (sa_cons (so_ex se_int) sa_nil)))) (so_ex se_int)))) (fun _ _ _ _ _ => (se_at (fun _ _ => rfl) (so_nm (i := 17) rfl (.inl rfl)) (so_ex se_int))))) sa_nil)))
  (ss_cons (ss_par (i := 12) (j := 11) rfl nd rfl rfl (by decide) rfl rfl (sa_cons (so_ex (sd_call (ok_law_any F) (hr.mono (by decide)) rfl F.g__law_any cx_takes (sa_cons (so_nm (i := 0) rfl (.inr (.inl rfl))) (sa_cons (so_ex (se_lst (sa_cons (so_ex (se_tup sa_nil)) (sa_cons (so_ex (se_tup sa_nil)) (sa_cons (so_ex (se_tup sa_nil)) (sa_cons (so_ex (se_tup (sa_cons (so_ex se_str) sa_nil))) sa_nil)))))) sa_nil)))) (sa_cons (so_ex (sd_call (ok_law_any F) (hr.mono (by decide)) rfl F.g__law_any cx_takes (sa_cons (so_nm (i := 0) rfl (.inr (.inl rfl))) (sa_cons (so_ex (se_lst (sa_cons (so_ex se_int) (sa_cons (so_ex se_int) (sa_cons (so_ex se_int) (sa_cons (so_ex se_int) sa_nil)))))) sa_nil)))) sa_nil)) rfl)
  (ss_one (ss_drop (se_app (i := 8) rfl (.inl rfl) (se_tup (sa_cons (so_nm (i := 10) rfl (.inl rfl)) (sa_cons (so_ex (sd_call (ok_law_any F) (hr.mono (by decide)) rfl F.g__law_any cx_takes (sa_cons (so_nm (i := 0) rfl (.inr (.inl rfl))) (sa_cons (so_ex (se_lst (sa_cons (so_ex se_int) (sa_cons (so_ex se_int) (sa_cons (so_ex se_int) (sa_cons (so_ex se_int) sa_nil)))))) sa_nil)))) (sa_cons (so_nm (i := 13) rfl (.inl rfl)) (sa_cons (so_nm (i := 11) rfl (.inl rfl)) (sa_cons (so_nm (i := 12) rfl (.inl rfl)) (sa_cons (so_ex (sd_call (ok_law_some F) (hr.mono (by decide)) rfl F.g__law_some cx_takes (sa_cons (so_nm (i := 0) rfl (.inr (.inl rfl))) (sa_cons (so_nm (i := 5) rfl (.inl rfl)) (sa_cons (so_ex se_int) sa_nil))))) sa_nil)))))))))))))
  (ss_cons (ss_setLc (i := 14) rfl nd rfl rfl (sw_true rfl rfl rfl rfl) (blkOk_by (own := [("one", 17)]) rfl) (by decide) (by decide) (si_seq (so_nm (i := 8) rfl (.inl rfl))) (fun _ _ _ _ _ => (sg_nm (i := 17) nd rfl (.inl rfl))) (fun _ _ _ _ _ => sts_nil) (fun _ _ _ _ _ => (se_at (fun _ _ => rfl) (so_nm (i := 17) rfl (.inl rfl)) (so_ex se_int))))
  (ss_cons (ss_for (X := X_law_drawn P w K mg base cdv A outer s H E) cx_passes rfl (si_rng1 (X := X_law_drawn P w K mg base cdv A outer s H E) rfl F.n_range (sa_cons (so_ex (se_if (st_gt (so_ex (se_len rfl F.n_len (sa_cons (so_nm (i := 14) rfl (.inl rfl)) sa_nil))) (so_ex se_int)) (sd_call (ok_law_any F) (hr.mono (by decide)) rfl F.g__law_any cx_takes (sa_cons (so_nm (i := 0) rfl (.inr (.inl rfl))) (sa_cons (so_ex (se_lst (sa_cons (so_ex se_int) (sa_cons (so_ex se_int) (sa_cons (so_ex se_int) (sa_cons (so_ex se_int) sa_nil)))))) sa_nil))) se_int)) sa_nil)) (sg_nm (i := 15) nd rfl (.inl rfl)) (ss_cons (ss_set (i := 16) nd rfl (.inl rfl) (sd_call (ok_law_rule F) (hr.mono (by decide)) rfl F.g__law_rule cx_takes (sa_cons (so_nm (i := 0) rfl (.inr (.inl rfl))) (sa_cons (so_nm (i := 14) rfl (.inl rfl)) sa_nil))))
  (ss_one (ss_if (st_ni (units65 hr) (so_nm (i := 16) rfl (.inl rfl)) (so_nm (i := 9) rfl (.inl rfl))) (ss_one (ss_drop (se_app (i := 9) rfl (.inl rfl) (se_rd (i := 16) rfl (.inl rfl))))) ss_nil))))
  (ss_one (ss_ret (se_tup (sa_cons (so_nm (i := 3) rfl (.inl rfl)) (sa_cons (so_nm (i := 4) rfl (.inl rfl)) (sa_cons (so_ex (se_tuple rfl F.n_tuple (sa_cons (so_nm (i := 6) rfl (.inl rfl)) sa_nil))) (sa_cons (so_ex (se_tuple rfl F.n_tuple (sa_cons (so_nm (i := 7) rfl (.inl rfl)) sa_nil))) (sa_cons (so_ex (se_tuple rfl F.n_tuple (sa_cons (so_nm (i := 8) rfl (.inl rfl)) sa_nil))) (sa_cons (so_ex (se_tuple rfl F.n_tuple (sa_cons (so_nm (i := 9) rfl (.inl rfl)) sa_nil))) sa_nil)))))))))))))))))
def f_law_drawn : Fn := mkFn 18 3 m_law_drawn
theorem ok_law_drawn (F : Fx P w K mg base) : Df P w K mg base tabs 4 (He.fAd K ("_law_drawn", none)) ["hand", "most", "least"] f_law_drawn := df_of F.fd_law_drawn (fs_by rfl) rfl rfl (fun _ _ _ _ _ _ us hl => match us, hl with | [_, _, _], _ => rfl) (b_law_drawn F)
def m_law_book : M Fl := (mSeq (mSet 1 (mN [(.ex (mLc [4] (itS (.ex (mN [(.nm 0), (.ex (mC (.int 2)))] gAt))) (setN 4) mTrue (mMake "Room" f_Room_init [(.ex (mN [(.nm 4), (.ex (mC (.int 0)))] gAt)), (.ex (mN [(.nm 4), (.ex (mC (.int 1)))] gAt)), (.ex (mN [(.nm 4), (.ex (mC (.int 2)))] gAt)), (.ex (mN [(.nm 4), (.ex (mC (.int 3)))] gAt))])))] gTuple))
  (mSeq (mSet 2 (mN [(.ex (mLc [4] (itS (.ex (mN [(.nm 0), (.ex (mC (.int 3)))] gAt))) (setN 4) mTrue (mMake "Person" f_Person_init [(.ex (mN [(.nm 4), (.ex (mC (.int 0)))] gAt)), (.ex (mN [(.nm 4), (.ex (mC (.int 1)))] gAt)), (.ex (mN [(.nm 4), (.ex (mC (.int 2)))] gAt))])))] gTuple))
  (mSeq (mSet 3 (mN [(.ex (mLc [4] (itS (.ex (mN [(.nm 0), (.ex (mC (.int 4)))] gAt))) (setN 4) mTrue (mMake "Lesson" f_Lesson_init [(.ex (mN [(.nm 4), (.ex (mC (.int 0)))] gAt)), (.ex (mN [(.nm 4), (.ex (mC (.int 1)))] gAt)), (.ex (mN [(.nm 4), (.ex (mC (.int 2)))] gAt)), (.ex (mN [(.nm 4), (.ex (mC (.int 3)))] gAt)), (.ex (mN [(.nm 4), (.ex (mC (.int 4)))] gAt)), (.ex (mN [(.nm 4), (.ex (mC (.int 5)))] gAt))])))] gTuple))
  (mRet (mMake "Book" f_Book_init [(.ex (mMake "Week" f_Week_init [(.ex (mN [(.nm 0), (.ex (mC (.int 0)))] gAt)), (.ex (mN [(.nm 0), (.ex (mC (.int 1)))] gAt))])), (.nm 1), (.nm 2), (.nm 3), (.ex (mN [(.nm 0), (.ex (mC (.int 5)))] gAt))])))))
abbrev X_law_book (P : Program) (w : World) (K : PySem.W.Frag) (mg : Str → Option Value) (base : Heap) (cdv : Value) (A : Around) (outer : List Env) (s : Shared) (H : Hp) (E : XK) : Cx := Xc P w K mg base ["plan", "rooms", "people", "lessons", "one"] "_law_book" (defScope (top 57)) (He.fAd K ("_law_book", none)) cdv A outer s H E
theorem b_law_book (F : Fx P w K mg base) (cdv : Value) (bor : List Addr) (A : Around) (outer : List Env) (s : Shared) (H : Hp) (E : XK) (hr : Room 7 (A.deeper (envOfC "_law_book" (defScope (top 57)) s.heap.objs.size (He.fAd K ("_law_book", none)) cdv))) :
    SB (X_law_book P w K mg base cdv A outer s H E) ⟨tabs, bor⟩ (We E) (defBody (top 57)) m_law_book := by
  have nd : (["plan", "rooms", "people", "lessons", "one"] : List Str).Nodup := by decide
  exact (ss_cons (ss_set (i := 1) nd rfl (.inl rfl) (se_tuple rfl F.n_tuple (sa_cons (so_ex (se_lc rfl nd (blkOk_by (own := [("one", 4)]) rfl) (by decide) (by decide) (si_seq (so_ex (se_at (fun _ _ => rfl) (so_nm (i := 0) rfl (.inl rfl)) (so_ex se_int)))) (fun _ _ _ _ _ => (sg_nm (i := 4) nd rfl (.inl rfl))) (fun _ _ _ _ _ => sts_nil) (fun _ _ _ _ _ => (sd_make (c := "Room") F.mk_Room (ok_Room_init F) (hr.mono (by decide)) rfl F.g_Room (sa_cons (so_ex (se_at (fun _ _ => rfl) (so_nm (i := 4) rfl (.inl rfl)) (so_ex se_int))) (sa_cons (so_ex (se_at (fun _ _ => rfl) (so_nm (i := 4) rfl (.inl rfl)) (so_ex se_int))) (sa_cons (so_ex (se_at (fun _ _ => rfl) (so_nm (i := 4) rfl (.inl rfl)) (so_ex se_int))) (sa_cons (so_ex (se_at (fun _ _ => rfl) (so_nm (i := 4) rfl (.inl rfl)) (so_ex se_int))) sa_nil)))))))) sa_nil)))
  (ss_cons (ss_set (i := 2) nd rfl (.inl rfl) (se_tuple rfl F.n_tuple (sa_cons (so_ex (se_lc rfl nd (blkOk_by (own := [("one", 4)]) rfl) (by decide) (by decide) (si_seq (so_ex (se_at (fun _ _ => rfl) (so_nm (i := 0) rfl (.inl rfl)) (so_ex se_int)))) (fun _ _ _ _ _ => (sg_nm (i := 4) nd rfl (.inl rfl))) (fun _ _ _ _ _ => sts_nil) (fun _ _ _ _ _ => (sd_make (c := "Person") F.mk_Person (ok_Person_init F) (hr.mono (by decide)) rfl F.g_Person (sa_cons (so_ex (se_at (fun _ _ => rfl) (so_nm (i := 4) rfl (.inl rfl)) (so_ex se_int))) (sa_cons (so_ex (se_at (fun _ _ => rfl) (so_nm (i := 4) rfl (.inl rfl)) (so_ex se_int))) (sa_cons (so_ex (se_at (fun _ _ => rfl) (so_nm (i := 4) rfl (.inl rfl)) (so_ex se_int))) sa_nil))))))) sa_nil)))
  (ss_cons (ss_set (i := 3) nd rfl (.inl rfl) (se_tuple rfl F.n_tuple (sa_cons (so_ex (se_lc rfl nd (blkOk_by (own := [("one", 4)]) rfl) (by decide) (by decide) (si_seq (so_ex (se_at (fun _ _ => rfl) (so_nm (i := 0) rfl (.inl rfl)) (so_ex se_int)))) (fun _ _ _ _ _ => (sg_nm (i := 4) nd rfl (.inl rfl))) (fun _ _ _ _ _ => sts_nil) (fun _ _ _ _ _ => (sd_make (c := "Lesson") F.mk_Lesson (ok_Lesson_init F) (hr.mono (by decide)) rfl F.g_Lesson (sa_cons (so_ex (se_at (fun _ _ => rfl) (so_nm (i := 4) rfl (.inl rfl)) (so_ex se_int))) (sa_cons (so_ex (se_at (fun _ _ => rfl) (so_nm (i := 4) rfl (.inl rfl)) (so_ex se_int))) (sa_cons (so_ex (se_at (fun _ _ => rfl) (so_nm (i := 4) rfl (.inl rfl)) (so_ex se_int))) (sa_cons (so_ex (se_at (fun _ _ => rfl) (so_nm (i := 4) rfl (.inl rfl)) (so_ex se_int))) (sa_cons (so_ex (se_at (fun _ _ => rfl) (so_nm (i := 4) rfl (.inl rfl)) (so_ex se_int))) (sa_cons (so_ex (se_at (fun _ _ => rfl) (so_nm (i := 4) rfl (.inl rfl)) (so_ex se_int))) sa_nil)))))))))) sa_nil)))
  (ss_one (ss_ret (sd_make (c := "Book") F.mk_Book (ok_Book_init F) (hr.mono (by decide)) rfl F.g_Book (sa_cons (so_ex (sd_make (c := "Week") F.mk_Week (ok_Week_init F) (hr.mono (by decide)) rfl F.g_Week (sa_cons (so_ex (se_at (fun _ _ => rfl) (so_nm (i := 0) rfl (.inl rfl)) (so_ex se_int))) (sa_cons (so_ex (se_at (fun _ _ => rfl) (so_nm (i := 0) rfl (.inl rfl)) (so_ex se_int))) sa_nil)))) (sa_cons (so_nm (i := 1) rfl (.inl rfl)) (sa_cons (so_nm (i := 2) rfl (.inl rfl)) (sa_cons (so_nm (i := 3) rfl (.inl rfl)) (sa_cons (so_ex (se_at (fun _ _ => rfl) (so_nm (i := 0) rfl (.inl rfl)) (so_ex se_int))) sa_nil)))))))))))
def f_law_book : Fn := mkFn 5 1 m_law_book
theorem ok_law_book (F : Fx P w K mg base) : Df P w K mg base tabs 8 (He.fAd K ("_law_book", none)) ["plan"] f_law_book := df_of F.fd_law_book (fs_by rfl) rfl rfl (fun _ _ _ _ _ _ us hl => match us, hl with | [_], _ => rfl) (b_law_book F)
def m_law_row : M Fl := (mSeq (mPar [3, 4] [(.ex (mN [] gLst)), (.ex (mN [(.ex (mLc [6] (itS (.ex (mN [(.nm 1), (.ex (mC (.int 2)))] gAt))) (setN 6) mTrue (mN [(.nm 6), (.ex (mC (.int 0)))] gAt))), (.ex (mN [(.ex (mC (.str "hut")))] gLst))] gCatL))])
  (mSeq (mFor (itE (.ex (mN [(.nm 1), (.ex (mC (.int 4)))] gAt))) (setT [5, 6]) (mSeq (mSet 7 (mN [(.ex (mN [(.nm 6), (.ex (mC (.int 0)))] gAt)), (.ex (mCall (f_law_draw) [(.nm 0), (.ex (mN [(.ex (mN [(.nm 1), (.ex (mC (.int 0)))] gAt)), (.ex (mN [(.nm 1), (.ex (mC (.int 1)))] gAt))] (gI2c cMul fun i j => .int (i * j))))])), (.ex (mCall (f_law_any) [(.nm 0), (.ex (mN [(.nm 4), (.ex (mC (.int 2)))] gSlH))]))] gTup))
  (mDrop (mApp 3 (mIf (mOr (mTest (mN [(.nm 2)] (gIsN false))) (mTest (mN [(.ex (mCall (f_law_draw) [(.nm 0), (.ex (mC (.int 2)))])), (.ex (mC (.int 0)))] (gEq false)))) (mRd 7) (mN [(.nm 2), (.nm 5)] gAt))))))
  (mRet (mN [(.nm 3)] gTuple))))
abbrev X_law_row (P : Program) (w : World) (K : PySem.W.Frag) (mg : Str → Option Value) (base : Heap) (cdv : Value) (A : Around) (outer : List Env) (s : Shared) (H : Hp) (E : XK) : Cx := Xc P w K mg base ["hand", "plan", "base", "found", "rooms", "at", "one", "row"] "_law_row" (defScope (top 59)) (He.fAd K ("_law_row", none)) cdv A outer s H E
theorem b_law_row (F : Fx P w K mg base) (cdv : Value) (bor : List Addr) (A : Around) (outer : List Env) (s : Shared) (H : Hp) (E : XK) (hr : Room 2 (A.deeper (envOfC "_law_row" (defScope (top 59)) s.heap.objs.size (He.fAd K ("_law_row", none)) cdv))) :
    SB (X_law_row P w K mg base cdv A outer s H E) ⟨tabs, bor⟩ (We E) (defBody (top 59)) m_law_row := by
  have nd : (["hand", "plan", "base", "found", "rooms", "at", "one", "row"] : List Str).Nodup := by decide
  exact (ss_cons (ss_par (i := 3) (j := 4) rfl nd rfl rfl (by decide) rfl rfl (sa_cons (so_ex (se_lst sa_nil)) (sa_cons (so_ex (se_catL (so_ex (se_lc rfl nd (blkOk_by (own := [("one", 6)]) rfl) (by decide) (by decide) (si_seq (so_ex (se_at (fun _ _ => rfl) (so_nm (i := 1) rfl (.inl rfl)) (so_ex se_int)))) (fun _ _ _ _ _ => (sg_nm (i := 6) nd rfl (.inl rfl))) (fun _ _ _ _ _ => sts_nil) (fun _ _ _ _ _ => (se_at (fun _ _ => rfl) (so_nm (i := 6) rfl (.inl rfl)) (so_ex se_int))))) (so_ex (se_lst (sa_cons (so_ex se_str) sa_nil))))) sa_nil)) rfl)
  (ss_cons (ss_for (X := X_law_row P w K mg base cdv A outer s H E) cx_passes rfl (si_enum (X := X_law_row P w K mg base cdv A outer s H E) rfl F.n_enumerate (sa_cons (so_ex (se_at (fun _ _ => rfl) (so_nm (i := 1) rfl (.inl rfl)) (so_ex se_int))) sa_nil)) (sg_tup rfl (sgs_cons (i := 5) nd rfl (.inl rfl) (sgs_cons (i := 6) nd rfl (.inl rfl) sgs_nil))) (ss_cons (ss_set (i := 7) nd rfl (.inl rfl) (se_tup (sa_cons (so_ex (se_at (fun _ _ => rfl) (so_nm (i := 6) rfl (.inl rfl)) (so_ex se_int))) (sa_cons (so_ex (sd_call (ok_law_draw F) (hr.mono (by decide)) rfl F.g__law_draw cx_takes (sa_cons (so_nm (i := 0) rfl (.inl rfl)) (sa_cons (so_ex (se_mul (so_ex (se_at (fun _ _ => rfl) (so_nm (i := 1) rfl (.inl rfl)) (so_ex se_int))) (so_ex (se_at (fun _ _ => rfl) (so_nm (i := 1) rfl (.inl rfl)) (so_ex se_int))))) sa_nil)))) (sa_cons (so_ex (sd_call (ok_law_any F) (hr.mono (by decide)) rfl F.g__law_any cx_takes (sa_cons (so_nm (i := 0) rfl (.inl rfl)) (sa_cons (so_ex (se_slH (so_nm (i := 4) rfl (.inl rfl)) (so_ex se_int))) sa_nil)))) sa_nil)))))
  (ss_one (ss_drop (se_app (i := 3) rfl (.inl rfl) (se_if (st_bool (sw_or (st_isN (so_nm (i := 2) rfl (.inl rfl))) (sw_or1 (st_eq hr.units (so_ex (sd_call (ok_law_draw F) (hr.mono (by decide)) rfl F.g__law_draw cx_takes (sa_cons (so_nm (i := 0) rfl (.inl rfl)) (sa_cons (so_ex se_int) sa_nil)))) (so_ex se_int))))) (se_rd (i := 7) rfl (.inl rfl)) (se_at (fun _ _ => rfl) (so_nm (i := 2) rfl (.inl rfl)) (so_nm (i := 5) rfl (.inl rfl)))))))))
  (ss_one (ss_ret (se_tuple rfl F.n_tuple (sa_cons (so_nm (i := 3) rfl (.inl rfl)) sa_nil))))))
def f_law_row : Fn := mkFn 8 3 m_law_row
theorem ok_law_row (F : Fx P w K mg base) : Df P w K mg base tabs 3 (He.fAd K ("_law_row", none)) ["hand", "plan", "base"] f_law_row := df_of F.fd_law_row (fs_by rfl) rfl rfl (fun _ _ _ _ _ _ us hl => match us, hl with | [_, _, _], _ => rfl) (b_law_row F)
def m_law_due : M Fl := (mSeq (mPar [3, 4] [(.ex (mN [] gLst)), (.ex (mN [] gLst))])
  (mSeq (mFor (itZ3 (.ex (mRd 0)) (.ex (mRd 1)) (.ex (mRd 2))) (setT [5, 6, 7]) (mSeq (mIfS (mAnd (mTest (mN [(.nm 6), (.nm 5)] (gEq true))) (mAnd (mTest (mN [(.nm 7), (.nm 5)] (gEq true))) (mTest (mN [(.nm 6), (.nm 7)] (gEq true))))) (mDrop (mApp 4 (mN [(.nm 5), (.ex (mC (.int 0)))] gAt))) mNx)
  (mDrop (mApp 3 (mIf (mTest (mN [(.nm 6), (.nm 5)] (gEq false))) (mRd 7) (mRd 6))))))
  (mRet (mIf (mTest (mN [(.ex (mN [(.nm 4)] gLen)), (.ex (mC (.int 0)))] (gI2 fun i j => .bl (decide (j < i))))) (mN [(.ex (mC (.str "clash"))), (.ex (mN [(.nm 4)] gTuple))] gTup) (mN [(.ex (mC (.str "merged"))), (.ex (mN [(.nm 3)] gTuple))] gTup)))))
abbrev X_law_due (P : Program) (w : World) (K : PySem.W.Frag) (mg : Str → Option Value) (base : Heap) (cdv : Value) (A : Around) (outer : List Env) (s : Shared) (H : Hp) (E : XK) : Cx := Xc P w K mg base ["base", "one", "two", "found", "names", "old", "first", "second"] "_law_due" (defScope (top 60)) (He.fAd K ("_law_due", none)) cdv A outer s H E
theorem b_law_due (F : Fx P w K mg base) (cdv : Value) (bor : List Addr) (A : Around) (outer : List Env) (s : Shared) (H : Hp) (E : XK) (hr : Room 0 (A.deeper (envOfC "_law_due" (defScope (top 60)) s.heap.objs.size (He.fAd K ("_law_due", none)) cdv))) :
    SB (X_law_due P w K mg base cdv A outer s H E) ⟨tabs, bor⟩ (We E) (defBody (top 60)) m_law_due := by
  have nd : (["base", "one", "two", "found", "names", "old", "first", "second"] : List Str).Nodup := by decide
  exact (ss_cons (ss_par (i := 3) (j := 4) rfl nd rfl rfl (by decide) rfl rfl (sa_cons (so_ex (se_lst sa_nil)) (sa_cons (so_ex (se_lst sa_nil)) sa_nil)) rfl)
  (ss_cons (ss_for (X := X_law_due P w K mg base cdv A outer s H E) cx_passes rfl (si_zip3 (X := X_law_due P w K mg base cdv A outer s H E) rfl F.n_zip (sa_cons (so_ex (se_rd (i := 0) rfl (.inl rfl))) (sa_cons (so_ex (se_rd (i := 1) rfl (.inl rfl))) (sa_cons (so_ex (se_rd (i := 2) rfl (.inl rfl))) sa_nil)))) (sg_tup rfl (sgs_cons (i := 5) nd rfl (.inl rfl) (sgs_cons (i := 6) nd rfl (.inl rfl) (sgs_cons (i := 7) nd rfl (.inl rfl) sgs_nil)))) (ss_cons (ss_if (st_bool (sw_and (st_ne hr.units (so_nm (i := 6) rfl (.inl rfl)) (so_nm (i := 5) rfl (.inl rfl))) (sw_and (st_ne hr.units (so_nm (i := 7) rfl (.inl rfl)) (so_nm (i := 5) rfl (.inl rfl))) (sw_and1 (st_ne hr.units (so_nm (i := 6) rfl (.inl rfl)) (so_nm (i := 7) rfl (.inl rfl))))))) (ss_one (ss_drop (se_app (i := 4) rfl (.inl rfl) (se_at (fun _ _ => rfl) (so_nm (i := 5) rfl (.inl rfl)) (so_ex se_int))))) ss_nil)
  (ss_one (ss_drop (se_app (i := 3) rfl (.inl rfl) (se_if (st_eq hr.units (so_nm (i := 6) rfl (.inl rfl)) (so_nm (i := 5) rfl (.inl rfl))) (se_rd (i := 7) rfl (.inl rfl)) (se_rd (i := 6) rfl (.inl rfl))))))))
  (ss_one (ss_ret (se_if (st_gt (so_ex (se_len rfl F.n_len (sa_cons (so_nm (i := 4) rfl (.inl rfl)) sa_nil))) (so_ex se_int)) (se_tup (sa_cons (so_ex se_str) (sa_cons (so_ex (se_tuple rfl F.n_tuple (sa_cons (so_nm (i := 4) rfl (.inl rfl)) sa_nil))) sa_nil))) (se_tup (sa_cons (so_ex se_str) (sa_cons (so_ex (se_tuple rfl F.n_tuple (sa_cons (so_nm (i := 3) rfl (.inl rfl)) sa_nil))) sa_nil))))))))
def f_law_due : Fn := mkFn 8 3 m_law_due
theorem ok_law_due (F : Fx P w K mg base) : Df P w K mg base tabs 1 (He.fAd K ("_law_due", none)) ["base", "one", "two"] f_law_due := df_of F.fd_law_due (fs_by rfl) rfl rfl (fun _ _ _ _ _ _ us hl => match us, hl with | [_, _, _], _ => rfl) (b_law_due F)
def m_law_unlike : M Fl := (mRet (mN [(.ex (mLc [2, 3] (itZ2 (.nm 0) (.nm 1)) (setT [2, 3]) (mTest (mN [(.nm 2), (.nm 3)] (gEq true))) (mN [(.nm 2), (.ex (mC (.int 0)))] gAt)))] gTuple))
abbrev X_law_unlike (P : Program) (w : World) (K : PySem.W.Frag) (mg : Str → Option Value) (base : Heap) (cdv : Value) (A : Around) (outer : List Env) (s : Shared) (H : Hp) (E : XK) : Cx := Xc P w K mg base ["one", "two", "first", "second"] "_law_unlike" (defScope (top 61)) (He.fAd K ("_law_unlike", none)) cdv A outer s H E
theorem b_law_unlike (F : Fx P w K mg base) (cdv : Value) (bor : List Addr) (A : Around) (outer : List Env) (s : Shared) (H : Hp) (E : XK) (hr : Room 0 (A.deeper (envOfC "_law_unlike" (defScope (top 61)) s.heap.objs.size (He.fAd K ("_law_unlike", none)) cdv))) :
    SB (X_law_unlike P w K mg base cdv A outer s H E) ⟨tabs, bor⟩ (We E) (defBody (top 61)) m_law_unlike := by
  have nd : (["one", "two", "first", "second"] : List Str).Nodup := by decide
  exact (ss_one (ss_ret (se_tuple rfl F.n_tuple (sa_cons (so_ex (se_lc rfl nd (blkOk_by (own := [("first", 2), ("second", 3)]) rfl) (by decide) (by decide) (si_zip2 rfl F.n_zip (sa_cons (so_nm (i := 0) rfl (.inl rfl)) (sa_cons (so_nm (i := 1) rfl (.inl rfl)) sa_nil))) (fun _ _ _ _ _ => (sg_tup rfl (sgs_cons (i := 2) nd rfl (.inl rfl) (sgs_cons (i := 3) nd rfl (.inl rfl) sgs_nil)))) (fun _ _ _ _ _ => (sts_one (st_ne hr.units (so_nm (i := 2) rfl (.inl rfl)) (so_nm (i := 3) rfl (.inl rfl))))) (fun _ _ _ _ _ => (se_at (fun _ _ => rfl) (so_nm (i := 2) rfl (.inl rfl)) (so_ex se_int))))) sa_nil))))
def f_law_unlike : Fn := mkFn 4 2 m_law_unlike
theorem ok_law_unlike (F : Fx P w K mg base) : Df P w K mg base tabs 1 (He.fAd K ("_law_unlike", none)) ["one", "two"] f_law_unlike := df_of F.fd_law_unlike (fs_by rfl) rfl rfl (fun _ _ _ _ _ _ us hl => match us, hl with | [_, _], _ => rfl) (b_law_unlike F)
def m_law_three_right : M Fl := (mSeq (mSet 4 (mCall (f_law_due) [(.nm 1), (.nm 2), (.nm 3)]))
  (mSeq (mIfS (mNot (mTest (mCall (f_law_is 5) [(.ex (mN [(.ex (mCall (f_merged) [(.nm 0), (.nm 1), (.nm 2), (.nm 3)])), (.ex (mCall (f_merged) [(.nm 0), (.nm 1), (.nm 3), (.nm 2)]))] gLst)), (.ex (mN [(.nm 4), (.nm 4)] gLst))]))) (mRet (mC (.bl false))) mNx)
  (mSeq (mSet 5 (mN [(.ex (mCall (f_merged) [(.nm 0), (.nm 1), (.nm 1), (.nm 3)])), (.ex (mCall (f_merged) [(.nm 0), (.nm 1), (.nm 2), (.nm 2)]))] gLst))
  (mSeq (mIfS (mNot (mTest (mCall (f_law_is 5) [(.nm 5), (.ex (mN [(.ex (mN [(.ex (mC (.str "merged"))), (.nm 3)] gTup)), (.ex (mN [(.ex (mC (.str "merged"))), (.nm 2)] gTup))] gLst))]))) (mRet (mC (.bl false))) mNx)
  (mSeq (mIfS (mNot (mTest (mCall (f_law_is 5) [(.ex (mN [(.ex (mCall (f_unlike_in) [(.nm 0), (.nm 2), (.nm 3)])), (.ex (mCall (f_unlike_in) [(.nm 0), (.nm 3), (.nm 2)]))] gLst)), (.ex (mN [(.ex (mN [(.ex (mCall (f_law_unlike) [(.nm 2), (.nm 3)]))] gLst)), (.ex (mC (.int 2)))] gRep))]))) (mRet (mC (.bl false))) mNx)
  (mSeq (mSet 6 (mN [(.ex (mCall (f_unlike_in) [(.nm 0), (.nm 1), (.nm 2)])), (.ex (mCall (f_unlike_in) [(.nm 0), (.nm 1), (.nm 3)])), (.ex (mCall (f_unlike_in) [(.nm 0), (.nm 2), (.nm 3)]))] gLst))
  (mSeq (mIfS (mTest (mN [(.ex (mN [(.nm 4), (.ex (mC (.int 0)))] gAt)), (.ex (mC (.str "clash")))] (gEq false))) (mRet (mN [(.ex (mLc [8] (itS (.ex (mN [(.nm 4), (.ex (mC (.int 1)))] gAt))) (setN 8) mTrue (mN [(.ex (mLc [9] (itS (.nm 6)) (setN 9) mTrue (mN [(.nm 8), (.nm 9)] (gIn false))))] gAll)))] gAll)) mNx)
  (mSeq (mSet 5 (mN [(.nm 4), (.ex (mC (.int 1)))] gAt))
  (mSeq (mIfS (mNot (mTest (mCall (f_law_is 5) [(.ex (mCall (f_merged) [(.nm 0), (.nm 2), (.nm 5), (.nm 2)])), (.ex (mN [(.ex (mC (.str "merged"))), (.nm 5)] gTup))]))) (mRet (mC (.bl false))) mNx)
  (mSeq (mSet 7 (mN [(.ex (mN [(.ex (mN [(.nm 6), (.ex (mC (.int 0)))] gAt)), (.ex (mN [(.nm 6), (.ex (mC (.int 1)))] gAt))] gCatT))] gSortSet))
  (mRet (mCall (f_law_is 5) [(.ex (mCall (f_unlike_in) [(.nm 0), (.nm 1), (.nm 5)])), (.ex (mN [(.nm 7)] gTuple))]))))))))))))
abbrev X_law_three_right (P : Program) (w : World) (K : PySem.W.Frag) (mg : Str → Option Value) (base : Heap) (cdv : Value) (A : Around) (outer : List Env) (s : Shared) (H : Hp) (E : XK) : Cx := Xc P w K mg base ["book", "base", "one", "two", "due", "told", "lots", "changed", "name", "lot"] "_law_three_right" (defScope (top 62)) (He.fAd K ("_law_three_right", none)) cdv A outer s H E
theorem b_law_three_right (F : Fx P w K mg base) (cdv : Value) (bor : List Addr) (A : Around) (outer : List Env) (s : Shared) (H : Hp) (E : XK) (hr : Room 6 (A.deeper (envOfC "_law_three_right" (defScope (top 62)) s.heap.objs.size (He.fAd K ("_law_three_right", none)) cdv))) :
    SB (X_law_three_right P w K mg base cdv A outer s H E) ⟨tabs, bor⟩ (We E) (defBody (top 62)) m_law_three_right := by
  have nd : (["book", "base", "one", "two", "due", "told", "lots", "changed", "name", "lot"] : List Str).Nodup := by decide
  exact (ss_cons (ss_set (i := 4) nd rfl (.inl rfl) (sd_call (ok_law_due F) (hr.mono (by decide)) rfl F.g__law_due cx_takes (sa_cons (so_nm (i := 1) rfl (.inl rfl)) (sa_cons (so_nm (i := 2) rfl (.inl rfl)) (sa_cons (so_nm (i := 3) rfl (.inl rfl)) sa_nil)))))
  (ss_cons (ss_if (st_not (st_val (sd_call (ok_law_is F 5) (hr.mono (by decide)) rfl F.g__law_is cx_takes (sa_cons (so_ex (se_lst (sa_cons (so_ex (sd_call (ok_merged F) (hr.mono (by decide)) rfl F.g_merged cx_takes (sa_cons (so_nm (i := 0) rfl (.inl rfl)) (sa_cons (so_nm (i := 1) rfl (.inl rfl)) (sa_cons (so_nm (i := 2) rfl (.inl rfl)) (sa_cons (so_nm (i := 3) rfl (.inl rfl)) sa_nil)))))) (sa_cons (so_ex (sd_call (ok_merged F) (hr.mono (by decide)) rfl F.g_merged cx_takes (sa_cons (so_nm (i := 0) rfl (.inl rfl)) (sa_cons (so_nm (i := 1) rfl (.inl rfl)) (sa_cons (so_nm (i := 3) rfl (.inl rfl)) (sa_cons (so_nm (i := 2) rfl (.inl rfl)) sa_nil)))))) sa_nil)))) (sa_cons (so_ex (se_lst (sa_cons (so_nm (i := 4) rfl (.inl rfl)) (sa_cons (so_nm (i := 4) rfl (.inl rfl)) sa_nil)))) sa_nil))))) (ss_one (ss_ret se_bl)) ss_nil)
  (ss_cons (ss_set (i := 5) nd rfl (.inl rfl) (se_lst (sa_cons (so_ex (sd_call (ok_merged F) (hr.mono (by decide)) rfl F.g_merged cx_takes (sa_cons (so_nm (i := 0) rfl (.inl rfl)) (sa_cons (so_nm (i := 1) rfl (.inl rfl)) (sa_cons (so_nm (i := 1) rfl (.inl rfl)) (sa_cons (so_nm (i := 3) rfl (.inl rfl)) sa_nil)))))) (sa_cons (so_ex (sd_call (ok_merged F) (hr.mono (by decide)) rfl F.g_merged cx_takes (sa_cons (so_nm (i := 0) rfl (.inl rfl)) (sa_cons (so_nm (i := 1) rfl (.inl rfl)) (sa_cons (so_nm (i := 2) rfl (.inl rfl)) (sa_cons (so_nm (i := 2) rfl (.inl rfl)) sa_nil)))))) sa_nil))))
  (ss_cons (ss_if (st_not (st_val (sd_call (ok_law_is F 5) (hr.mono (by decide)) rfl F.g__law_is cx_takes (sa_cons (so_nm (i := 5) rfl (.inl rfl)) (sa_cons (so_ex (se_lst (sa_cons (so_ex (se_tup (sa_cons (so_ex se_str) (sa_cons (so_nm (i := 3) rfl (.inl rfl)) sa_nil)))) (sa_cons (so_ex (se_tup (sa_cons (so_ex se_str) (sa_cons (so_nm (i := 2) rfl (.inl rfl)) sa_nil)))) sa_nil)))) sa_nil))))) (ss_one (ss_ret se_bl)) ss_nil)
  (ss_cons (ss_if (st_not (st_val (sd_call (ok_law_is F 5) (hr.mono (by decide)) rfl F.g__law_is cx_takes (sa_cons (so_ex (se_lst (sa_cons (so_ex (sd_call (ok_unlike_in F) (hr.mono (by decide)) rfl F.g_unlike_in cx_takes (sa_cons (so_nm (i := 0) rfl (.inl rfl)) (sa_cons (so_nm (i := 2) rfl (.inl rfl)) (sa_cons (so_nm (i := 3) rfl (.inl rfl)) sa_nil))))) (sa_cons (so_ex (sd_call (ok_unlike_in F) (hr.mono (by decide)) rfl F.g_unlike_in cx_takes (sa_cons (so_nm (i := 0) rfl (.inl rfl)) (sa_cons (so_nm (i := 3) rfl (.inl rfl)) (sa_cons (so_nm (i := 2) rfl (.inl rfl)) sa_nil))))) sa_nil)))) (sa_cons (so_ex (se_rep (so_ex (se_lst (sa_cons (so_ex (sd_call (ok_law_unlike F) (hr.mono (by decide)) rfl F.g__law_unlike cx_takes (sa_cons (so_nm (i := 2) rfl (.inl rfl)) (sa_cons (so_nm (i := 3) rfl (.inl rfl)) sa_nil)))) sa_nil))) (so_ex se_int))) sa_nil))))) (ss_one (ss_ret se_bl)) ss_nil)
  (ss_cons (ss_set (i := 6) nd rfl (.inr rfl) (se_lst (sa_cons (so_ex (sd_call (ok_unlike_in F) (hr.mono (by decide)) rfl F.g_unlike_in cx_takes (sa_cons (so_nm (i := 0) rfl (.inl rfl)) (sa_cons (so_nm (i := 1) rfl (.inl rfl)) (sa_cons (so_nm (i := 2) rfl (.inl rfl)) sa_nil))))) (sa_cons (so_ex (sd_call (ok_unlike_in F) (hr.mono (by decide)) rfl F.g_unlike_in cx_takes (sa_cons (so_nm (i := 0) rfl (.inl rfl)) (sa_cons (so_nm (i := 1) rfl (.inl rfl)) (sa_cons (so_nm (i := 3) rfl (.inl rfl)) sa_nil))))) (sa_cons (so_ex (sd_call (ok_unlike_in F) (hr.mono (by decide)) rfl F.g_unlike_in cx_takes (sa_cons (so_nm (i := 0) rfl (.inl rfl)) (sa_cons (so_nm (i := 2) rfl (.inl rfl)) (sa_cons (so_nm (i := 3) rfl (.inl rfl)) sa_nil))))) sa_nil)))))
  (ss_cons (ss_if (st_eq hr.units (so_ex (se_at (fun _ _ => rfl) (so_nm (i := 4) rfl (.inl rfl)) (so_ex se_int))) (so_ex se_str)) (ss_one (ss_ret (se_all rfl rfl F.n_all (sa_cons (so_ex (se_lc rfl nd (blkOk_by (own := [("name", 8)]) rfl) (by decide) (by decide) (si_seq (so_ex (se_at (fun _ _ => rfl) (so_nm (i := 4) rfl (.inl rfl)) (so_ex se_int)))) (fun _ _ _ _ _ => (sg_nm (i := 8) nd rfl (.inr rfl))) (fun _ _ _ _ _ => sts_nil) (fun _ _ _ _ _ => (se_all rfl rfl F.n_all (sa_cons (so_ex (se_lc rfl nd (blkOk_by (own := [("lot", 9)]) rfl) (by decide) (by decide) (si_seq (so_nm (i := 6) rfl (.inr (.inl rfl)))) (fun _ _ _ _ _ => (sg_nm (i := 9) nd rfl (.inl rfl))) (fun _ _ _ _ _ => sts_nil) (fun _ _ _ _ _ => (se_in (units65 hr) (so_nm (i := 8) rfl (.inr (.inl rfl))) (so_nm (i := 9) rfl (.inl rfl)))))) sa_nil))))) sa_nil)))) ss_nil)
  (ss_cons (ss_set (i := 5) nd rfl (.inl rfl) (se_at (fun _ _ => rfl) (so_nm (i := 4) rfl (.inl rfl)) (so_ex se_int)))
  (ss_cons (ss_if (st_not (st_val (sd_call (ok_law_is F 5) (hr.mono (by decide)) rfl F.g__law_is cx_takes (sa_cons (so_ex (sd_call (ok_merged F) (hr.mono (by decide)) rfl F.g_merged cx_takes (sa_cons (so_nm (i := 0) rfl (.inl rfl)) (sa_cons (so_nm (i := 2) rfl (.inl rfl)) (sa_cons (so_nm (i := 5) rfl (.inl rfl)) (sa_cons (so_nm (i := 2) rfl (.inl rfl)) sa_nil)))))) (sa_cons (so_ex (se_tup (sa_cons (so_ex se_str) (sa_cons (so_nm (i := 5) rfl (.inl rfl)) sa_nil)))) sa_nil))))) (ss_one (ss_ret se_bl)) ss_nil)
  (ss_cons (ss_set (i := 7) nd rfl (.inl rfl) (se_sortSet rfl rfl F.n_sorted rfl F.n_set (sa_cons (so_ex (se_catT (so_ex (se_at (fun _ _ => rfl) (so_nm (i := 6) rfl (.inr (.inl rfl))) (so_ex se_int))) (so_ex (se_at (fun _ _ => rfl) (so_nm (i := 6) rfl (.inr (.inl rfl))) (so_ex se_int))))) sa_nil)))
  (ss_one (ss_ret (sd_call (ok_law_is F 5) (hr.mono (by decide)) rfl F.g__law_is cx_takes (sa_cons (so_ex (sd_call (ok_unlike_in F) (hr.mono (by decide)) rfl F.g_unlike_in cx_takes (sa_cons (so_nm (i := 0) rfl (.inl rfl)) (sa_cons (so_nm (i := 1) rfl (.inl rfl)) (sa_cons (so_nm (i := 5) rfl (.inl rfl)) sa_nil))))) (sa_cons (so_ex (se_tuple rfl F.n_tuple (sa_cons (so_nm (i := 7) rfl (.inl rfl)) sa_nil))) sa_nil)))))))))))))))
def f_law_three_right : Fn := mkFn 10 4 m_law_three_right
theorem ok_law_three_right (F : Fx P w K mg base) : Df P w K mg base tabs 7 (He.fAd K ("_law_three_right", none)) ["book", "base", "one", "two"] f_law_three_right := df_of F.fd_law_three_right (fs_by rfl) rfl rfl (fun _ _ _ _ _ _ us hl => match us, hl with | [_, _, _, _], _ => rfl) (b_law_three_right F)
def m_law_refused : M Fl := (mSeq (mAsg (setT [3, 4, 5]) (mN [(.nm 2), (.ex (mC (.int 0)))] gAt))
  (mSeq (mSet 6 (mN [(.ex (mC .non)), (.ex (mN [] gTup)), (.ex (mN [(.nm 2)] gList)), (.ex (mN [(.nm 2), (.ex (mN [(.nm 2), (.ex (mC (.int 1)))] gSlH))] gCatT)), (.ex (mN [(.nm 2), (.ex (mC (.int 1)))] gSlL)), (.ex (mC (.str "rows"))), (.ex (mN [(.nm 2), (.ex (mN [(.ex (mN [(.ex (mC (.str "zoo"))), (.ex (mC (.int 0))), (.ex (mC (.str "big")))] gTup))] gTup))] gCatT))] gLst))
  (mSeq (mFor (itS (.ex (mN [(.ex (mN [(.nm 3), (.nm 4)] gTup)), (.ex (mN [(.ex (mC (.str "zoo"))), (.nm 4), (.nm 5)] gTup)), (.ex (mN [(.nm 3), (.ex (mC (.str "1"))), (.nm 5)] gTup)), (.ex (mN [(.nm 3), (.ex (mN [(.ex (mC (.int 1)))] (gI1 fun i => .int (-i)))), (.nm 5)] gTup)), (.ex (mN [(.nm 3), (.nm 4), (.ex (mC (.int 3)))] gTup)), (.ex (mC .non))] gTup))) (setN 7) (mDrop (mApp 6 (mN [(.ex (mN [(.nm 7)] gTup)), (.ex (mN [(.nm 2), (.ex (mC (.int 1)))] gSlL))] gCatT))))
  (mSeq (mSet 8 (mCall (f_law_any) [(.nm 0), (.nm 6)]))
  (mSeq (mSet 9 (mN [(.ex (mWord wf39 (mCall (f_merged) [(.nm 1), (.nm 8), (.nm 2), (.nm 2)])))] gLst))
  (mSeq (mDrop (mApp 9 (mWord wf39 (mCall (f_merged) [(.nm 1), (.nm 2), (.nm 8), (.nm 2)]))))
  (mSeq (mDrop (mApp 9 (mWord wf39 (mCall (f_merged) [(.nm 1), (.nm 2), (.nm 2), (.nm 8)]))))
  (mSeq (mDrop (mApp 9 (mWord wf39 (mCall (f_unlike_in) [(.nm 1), (.nm 8), (.nm 2)]))))
  (mSeq (mDrop (mApp 9 (mWord wf39 (mCall (f_unlike_in) [(.nm 1), (.nm 2), (.nm 8)]))))
  (mRet (mN [(.nm 9), (.ex (mN [(.ex (mN [(.ex (mC (.str "!NoTimetable")))] gLst)), (.ex (mC (.int 5)))] gRep))] (gEq false))))))))))))
abbrev X_law_refused (P : Program) (w : World) (K : PySem.W.Frag) (mg : Str → Option Value) (base : Heap) (cdv : Value) (A : Around) (outer : List Env) (s : Shared) (H : Hp) (E : XK) : Cx := Xc P w K mg base ["hand", "book", "rows", "name", "start", "room", "bad", "one", "odd", "words"] "_law_refused" (defScope (top 63)) (He.fAd K ("_law_refused", none)) cdv A outer s H E
theorem b_law_refused (F : Fx P w K mg base) (bor : List Addr) (A : Around) (outer : List Env) (s : Shared) (H : Hp) (E : XK) (hr : Room 8 (A.deeper (envOfC "_law_refused" (defScope (top 63)) s.heap.objs.size (He.fAd K ("_law_refused", none)) (.ref (He.codeOf K ("_law_refused", none)))))) :
    SB (X_law_refused P w K mg base (.ref (He.codeOf K ("_law_refused", none))) A outer s H E) ⟨tabs39 K, bor⟩ (We E) (defBody (top 63)) m_law_refused := by
  have nd : (["hand", "book", "rows", "name", "start", "room", "bad", "one", "odd", "words"] : List Str).Nodup := by decide
  exact (ss_cons (ss_asg (se_at (fun _ _ => rfl) (so_nm (i := 2) rfl (.inr (.inl rfl))) (so_ex se_int)) (sg_tup rfl (sgs_cons (i := 3) nd rfl (.inl rfl) (sgs_cons (i := 4) nd rfl (.inl rfl) (sgs_cons (i := 5) nd rfl (.inl rfl) sgs_nil)))))
  (ss_cons (ss_set (i := 6) nd rfl (.inl rfl) (se_lst (sa_cons (so_ex se_non) (sa_cons (so_ex (se_tup sa_nil)) (sa_cons (so_ex (se_list rfl F.n_list (sa_cons (so_nm (i := 2) rfl (.inr (.inl rfl))) sa_nil))) (sa_cons (so_ex (se_catT (so_nm (i := 2) rfl (.inr (.inl rfl))) (so_ex (se_slH (so_nm (i := 2) rfl (.inr (.inl rfl))) (so_ex se_int))))) (sa_cons (so_ex (se_slL (so_nm (i := 2) rfl (.inr (.inl rfl))) (so_ex se_int))) (sa_cons (so_ex se_str) (sa_cons (so_ex (se_catT (so_nm (i := 2) rfl (.inr (.inl rfl))) (so_ex (se_tup (sa_cons (so_ex (se_tup (sa_cons (so_ex se_str) (sa_cons (so_ex se_int) (sa_cons (so_ex se_str) sa_nil))))) sa_nil))))) sa_nil)))))))))
  (ss_cons (ss_for (X := X_law_refused P w K mg base (.ref (He.codeOf K ("_law_refused", none))) A outer s H E) cx_passes rfl (si_seq (so_ex (se_tup (sa_cons (so_ex (se_tup (sa_cons (so_nm (i := 3) rfl (.inl rfl)) (sa_cons (so_nm (i := 4) rfl (.inl rfl)) sa_nil)))) (sa_cons (so_ex (se_tup (sa_cons (so_ex se_str) (sa_cons (so_nm (i := 4) rfl (.inl rfl)) (sa_cons (so_nm (i := 5) rfl (.inl rfl)) sa_nil))))) (sa_cons (so_ex (se_tup (sa_cons (so_nm (i := 3) rfl (.inl rfl)) (sa_cons (so_ex se_str) (sa_cons (so_nm (i := 5) rfl (.inl rfl)) sa_nil))))) (sa_cons (so_ex (se_tup (sa_cons (so_nm (i := 3) rfl (.inl rfl)) (sa_cons (so_ex (se_neg (so_ex se_int))) (sa_cons (so_nm (i := 5) rfl (.inl rfl)) sa_nil))))) (sa_cons (so_ex (se_tup (sa_cons (so_nm (i := 3) rfl (.inl rfl)) (sa_cons (so_nm (i := 4) rfl (.inl rfl)) (sa_cons (so_ex se_int) sa_nil))))) (sa_cons (so_ex se_non) sa_nil))))))))) (sg_nm (i := 7) nd rfl (.inl rfl)) (ss_one (ss_drop (se_app (i := 6) rfl (.inl rfl) (se_catT (so_ex (se_tup (sa_cons (so_nm (i := 7) rfl (.inl rfl)) sa_nil))) (so_ex (se_slL (so_nm (i := 2) rfl (.inr (.inl rfl))) (so_ex se_int))))))))
  (ss_cons (ss_set (i := 8) nd rfl (.inr rfl) (sd_call (ok_law_any F) (hr.mono (by decide)) rfl F.g__law_any cx_takes (sa_cons (so_nm (i := 0) rfl (.inl rfl)) (sa_cons (so_nm (i := 6) rfl (.inl rfl)) sa_nil))))
  (ss_cons (ss_set (i := 9) nd rfl (.inl rfl) (se_lst (sa_cons (so_ex (se_word (wf := wf39) (k := 6) (Ng := ["call", "found", "e", "flags"]) F.fd_law_word rfl F.g__law_word (fun _ _ _ _ _ _ us hl => match us, hl with | [_], _ => rfl) (fs_by rfl) rfl (.inl rfl) (fun cdv => gives39 F _ _ _) F.tb_law_refused rfl (List.mem_singleton.mpr rfl) (fun p h _ => by rw [List.mem_singleton.mp h]; rfl) (hr.mono (by decide)) (LamX.lamS_by rfl) rfl (fun _ _ _ _ _ => rfl) (fun A outer s H E f c' hr => (sd_call (ok_merged F) (hr.mono (by decide)) rfl F.g_merged lam_takes (sa_cons (so_nm (i := 1) rfl (.inr (.inr rfl))) (sa_cons (so_nm (i := 8) rfl (.inr (.inr rfl))) (sa_cons (so_nm (i := 2) rfl (.inr (.inr rfl))) (sa_cons (so_nm (i := 2) rfl (.inr (.inr rfl))) sa_nil)))))))) sa_nil)))
  (ss_cons (ss_drop (se_app (i := 9) rfl (.inl rfl) (se_word (wf := wf39) (k := 6) (Ng := ["call", "found", "e", "flags"]) F.fd_law_word rfl F.g__law_word (fun _ _ _ _ _ _ us hl => match us, hl with | [_], _ => rfl) (fs_by rfl) rfl (.inl rfl) (fun cdv => gives39 F _ _ _) F.tb_law_refused rfl (List.mem_singleton.mpr rfl) (fun p h _ => by rw [List.mem_singleton.mp h]; rfl) (hr.mono (by decide)) (LamX.lamS_by rfl) rfl (fun _ _ _ _ _ => rfl) (fun A outer s H E f c' hr => (sd_call (ok_merged F) (hr.mono (by decide)) rfl F.g_merged lam_takes (sa_cons (so_nm (i := 1) rfl (.inr (.inr rfl))) (sa_cons (so_nm (i := 2) rfl (.inr (.inr rfl))) (sa_cons (so_nm (i := 8) rfl (.inr (.inr rfl))) (sa_cons (so_nm (i := 2) rfl (.inr (.inr rfl))) sa_nil)))))))))
  (ss_cons (ss_drop (se_app (i := 9) rfl (.inl rfl) (se_word (wf := wf39) (k := 6) (Ng := ["call", "found", "e", "flags"]) F.fd_law_word rfl F.g__law_word (fun _ _ _ _ _ _ us hl => match us, hl with | [_], _ => rfl) (fs_by rfl) rfl (.inl rfl) (fun cdv => gives39 F _ _ _) F.tb_law_refused rfl (List.mem_singleton.mpr rfl) (fun p h _ => by rw [List.mem_singleton.mp h]; rfl) (hr.mono (by decide)) (LamX.lamS_by rfl) rfl (fun _ _ _ _ _ => rfl) (fun A outer s H E f c' hr => (sd_call (ok_merged F) (hr.mono (by decide)) rfl F.g_merged lam_takes (sa_cons (so_nm (i := 1) rfl (.inr (.inr rfl))) (sa_cons (so_nm (i := 2) rfl (.inr (.inr rfl))) (sa_cons (so_nm (i := 2) rfl (.inr (.inr rfl))) (sa_cons (so_nm (i := 8) rfl (.inr (.inr rfl))) sa_nil)))))))))
  (ss_cons (ss_drop (se_app (i := 9) rfl (.inl rfl) (se_word (wf := wf39) (k := 6) (Ng := ["call", "found", "e", "flags"]) F.fd_law_word rfl F.g__law_word (fun _ _ _ _ _ _ us hl => match us, hl with | [_], _ => rfl) (fs_by rfl) rfl (.inl rfl) (fun cdv => gives39 F _ _ _) F.tb_law_refused rfl (List.mem_singleton.mpr rfl) (fun p h _ => by rw [List.mem_singleton.mp h]; rfl) (hr.mono (by decide)) (LamX.lamS_by rfl) rfl (fun _ _ _ _ _ => rfl) (fun A outer s H E f c' hr => (sd_call (ok_unlike_in F) (hr.mono (by decide)) rfl F.g_unlike_in lam_takes (sa_cons (so_nm (i := 1) rfl (.inr (.inr rfl))) (sa_cons (so_nm (i := 8) rfl (.inr (.inr rfl))) (sa_cons (so_nm (i := 2) rfl (.inr (.inr rfl))) sa_nil))))))))
  (ss_cons (ss_drop (se_app (i := 9) rfl (.inl rfl) (se_word (wf := wf39) (k := 6) (Ng := ["call", "found", "e", "flags"]) F.fd_law_word rfl F.g__law_word (fun _ _ _ _ _ _ us hl => match us, hl with | [_], _ => rfl) (fs_by rfl) rfl (.inl rfl) (fun cdv => gives39 F _ _ _) F.tb_law_refused rfl (List.mem_singleton.mpr rfl) (fun p h _ => by rw [List.mem_singleton.mp h]; rfl) (hr.mono (by decide)) (LamX.lamS_by rfl) rfl (fun _ _ _ _ _ => rfl) (fun A outer s H E f c' hr => (sd_call (ok_unlike_in F) (hr.mono (by decide)) rfl F.g_unlike_in lam_takes (sa_cons (so_nm (i := 1) rfl (.inr (.inr rfl))) (sa_cons (so_nm (i := 2) rfl (.inr (.inr rfl))) (sa_cons (so_nm (i := 8) rfl (.inr (.inr rfl))) sa_nil))))))))
  (ss_one (ss_ret (se_eq hr.units (so_nm (i := 9) rfl (.inl rfl)) (so_ex (se_rep (so_ex (se_lst (sa_cons (so_ex se_str) sa_nil))) (so_ex se_int)))))))))))))))
def f_law_refused : Fn := mkFn 10 3 m_law_refused
theorem ok_law_refused (F : Fx P w K mg base) : Df P w K mg base (tabs39 K) 9 (He.fAd K ("_law_refused", none)) ["hand", "book", "rows"] f_law_refused := df_ofC F.fd_law_refused (fs_by rfl) rfl rfl (fun _ _ _ _ _ _ us hl => match us, hl with | [_, _, _], _ => rfl) (b_law_refused F)
def m_law : M Fl := (mSeq (mSet 1 (mBox (mCall (f_law_hand) [(.nm 0)])))
  (mSeq (mFor (mN [(.ex (mC (.int 5)))] gRI1) (setN 2) (mSeq (mSet 3 (mCall (f_law_drawn) [(.nm 1), (.ex (mC (.int 4))), (.ex (mC (.int 1)))]))
  (mSeq (mPar [4, 5] [(.ex (mCall (f_law_book) [(.nm 3)])), (.ex (mCall (f_law_row) [(.nm 1), (.nm 3), (.ex (mC .non))]))])
  (mSeq (mPar [6, 7] [(.ex (mCall (f_law_row) [(.nm 1), (.nm 3), (.nm 5)])), (.ex (mCall (f_law_row) [(.nm 1), (.nm 3), (.nm 5)]))])
  (mSeq (mIfS (mOr (mNot (mTest (mCall (f_law_three_right) [(.nm 4), (.nm 5), (.nm 6), (.nm 7)]))) (mNot (mTest (mCall (f_law_three_right) [(.nm 4), (.nm 6), (.nm 5), (.nm 7)])))) (mRet (mC (.bl false))) mNx)
  (mIfS (mNot (mTest (mCall (f_law_refused) [(.nm 1), (.nm 4), (.nm 5)]))) (mRet (mC (.bl false))) mNx))))))
  (mRet (mC (.bl true)))))
abbrev X_law (P : Program) (w : World) (K : PySem.W.Frag) (mg : Str → Option Value) (base : Heap) (cdv : Value) (A : Around) (outer : List Env) (s : Shared) (H : Hp) (E : XK) : Cx := Xc P w K mg base ["script", "hand", "turn", "plan", "book", "base", "one", "two"] "law" (defScope (top 64)) (He.fAd K ("law", none)) cdv A outer s H E
theorem b_law (F : Fx P w K mg base) (cdv : Value) (bor : List Addr) (A : Around) (outer : List Env) (s : Shared) (H : Hp) (E : XK) (hr : Room 9 (A.deeper (envOfC "law" (defScope (top 64)) s.heap.objs.size (He.fAd K ("law", none)) cdv))) :
    SB (X_law P w K mg base cdv A outer s H E) ⟨tabs39 K, bor⟩ (We E) (defBody (top 64)) m_law := by
  have nd : (["script", "hand", "turn", "plan", "book", "base", "one", "two"] : List Str).Nodup := by decide
  exact (ss_cons (ss_set (i := 1) nd rfl (.inl rfl) (se_box (sd_call (ok_law_hand F) (hr.mono (by decide)) rfl F.g__law_hand cx_takes (sa_cons (so_nm (i := 0) rfl (.inl rfl)) sa_nil))))
  (ss_cons (ss_for (X := X_law P w K mg base cdv A outer s H E) cx_passes rfl (si_rng1 (X := X_law P w K mg base cdv A outer s H E) rfl F.n_range (sa_cons (so_ex se_int) sa_nil)) (sg_nm (i := 2) nd rfl (.inl rfl)) (ss_cons (ss_set (i := 3) nd rfl (.inl rfl) (sd_call (ok_law_drawn F) (hr.mono (by decide)) rfl F.g__law_drawn cx_takes (sa_cons (so_nm (i := 1) rfl (.inl rfl)) (sa_cons (so_ex se_int) (sa_cons (so_ex se_int) sa_nil)))))
  (ss_cons (ss_par (i := 4) (j := 5) rfl nd rfl rfl (by decide) rfl rfl (sa_cons (so_ex (sd_call (ok_law_book F) (hr.mono (by decide)) rfl F.g__law_book cx_takes (sa_cons (so_nm (i := 3) rfl (.inl rfl)) sa_nil))) (sa_cons (so_ex (sd_call (ok_law_row F) (hr.mono (by decide)) rfl F.g__law_row cx_takes (sa_cons (so_nm (i := 1) rfl (.inl rfl)) (sa_cons (so_nm (i := 3) rfl (.inl rfl)) (sa_cons (so_ex se_non) sa_nil))))) sa_nil)) rfl)
  (ss_cons (ss_par (i := 6) (j := 7) rfl nd rfl rfl (by decide) rfl rfl (sa_cons (so_ex (sd_call (ok_law_row F) (hr.mono (by decide)) rfl F.g__law_row cx_takes (sa_cons (so_nm (i := 1) rfl (.inl rfl)) (sa_cons (so_nm (i := 3) rfl (.inl rfl)) (sa_cons (so_nm (i := 5) rfl (.inl rfl)) sa_nil))))) (sa_cons (so_ex (sd_call (ok_law_row F) (hr.mono (by decide)) rfl F.g__law_row cx_takes (sa_cons (so_nm (i := 1) rfl (.inl rfl)) (sa_cons (so_nm (i := 3) rfl (.inl rfl)) (sa_cons (so_nm (i := 5) rfl (.inl rfl)) sa_nil))))) sa_nil)) rfl)
  (ss_cons (ss_if (st_bool (sw_or (st_not (st_val (sd_call (ok_law_three_right F) (hr.mono (by decide)) rfl F.g__law_three_right cx_takes (sa_cons (so_nm (i := 4) rfl (.inl rfl)) (sa_cons (so_nm (i := 5) rfl (.inl rfl)) (sa_cons (so_nm (i := 6) rfl (.inl rfl)) (sa_cons (so_nm (i := 7) rfl (.inl rfl)) sa_nil))))))) (sw_or1 (st_not (st_val (sd_call (ok_law_three_right F) (hr.mono (by decide)) rfl F.g__law_three_right cx_takes (sa_cons (so_nm (i := 4) rfl (.inl rfl)) (sa_cons (so_nm (i := 6) rfl (.inl rfl)) (sa_cons (so_nm (i := 5) rfl (.inl rfl)) (sa_cons (so_nm (i := 7) rfl (.inl rfl)) sa_nil)))))))))) (ss_one (ss_ret se_bl)) ss_nil)
  (ss_one (ss_if (st_not (st_val (sd_call (ok_law_refused F) (hr.mono (by decide)) rfl F.g__law_refused cx_takes (sa_cons (so_nm (i := 1) rfl (.inl rfl)) (sa_cons (so_nm (i := 4) rfl (.inl rfl)) (sa_cons (so_nm (i := 5) rfl (.inl rfl)) sa_nil)))))) (ss_one (ss_ret se_bl)) ss_nil)))))))
  (ss_one (ss_ret se_bl))))
def f_law : Fn := mkFn 8 1 m_law
theorem ok_law (F : Fx P w K mg base) : Df P w K mg base (tabs39 K) 10 (He.fAd K ("law", none)) ["script"] f_law := df_of F.fd_law (fs_by rfl) rfl rfl (fun _ _ _ _ _ _ us hl => match us, hl with | [_], _ => rfl) (b_law F)
end
end Py

set_option Elab.async false
set_option linter.all false
set_option maxRecDepth 100000
set_option maxHeartbeats 4000000
/-! Q1: the plain machine reckoned by simp; comprehensions and loops in plain form. -/
namespace Py
open PySem PySem.Spec PyProof.Rows L2

/-! ### reckoning: how each construct goes on -/
section
variable {α β : Type}
def kSeq (n : M Fl) : Rs Fl → Rs Fl
  | .ok .nx s => n s
  | r => r
def kDrop : Rs RV → Rs Fl
  | .ok _ s => .ok .nx s
  | .exn c fs s => .exn c fs s
  | .bad => .bad
def kSet (i : Nat) : Rs RV → Rs Fl
  | .ok r s => putS i r s
  | .exn c fs s => .exn c fs s
  | .bad => .bad
def kRet : Rs RV → Rs Fl
  | .ok (.f _) _ => .bad
  | .ok r s => .ok (.rt r) s
  | .exn c fs s => .exn c fs s
  | .bad => .bad
def kT : Rs RV → Rs Bool
  | .ok (.v (.bl b)) s => .ok b s
  | .ok _ _ => .bad
  | .exn c fs s => .exn c fs s
  | .bad => .bad
def kB : Rs Bool → Rs RV
  | .ok b s => .ok (.v (.bl b)) s
  | .exn c fs s => .exn c fs s
  | .bad => .bad
def kIf (u v : M α) : Rs Bool → Rs α
  | .ok true s => u s
  | .ok false s => v s
  | .exn c fs s => .exn c fs s
  | .bad => .bad
def kNot : Rs Bool → Rs Bool
  | .ok b s => .ok (!b) s
  | .exn c fs s => .exn c fs s
  | .bad => .bad
def kL2 (p : Pn) : Rs (List Pn) → Rs (List Pn)
  | .ok ps s => .ok (p :: ps) s
  | .exn c fs s => .exn c fs s
  | .bad => .bad
def kL1 (os : List Opd) : Rs Pn → Rs (List Pn)
  | .ok p s => kL2 p (runL os s)
  | .exn c fs s => .exn c fs s
  | .bad => .bad
def kG (g : List RV → S → Rs α) (s : S) : Option (List RV) → Rs α
  | some rs => g rs s
  | none => .bad
def kN (g : List RV → S → Rs α) : Rs (List Pn) → Rs α
  | .ok ps s => kG g s (rdL s.env ps)
  | .exn c fs s => .exn c fs s
  | .bad => .bad
def kX : Rs RV → Rs Pn
  | .ok (.f _) _ => .bad
  | .ok r s => .ok (.inr r) s
  | .exn c fs s => .exn c fs s
  | .bad => .bad
def kNm (i : Nat) (s : S) : Option RV → Rs Pn
  | some _ => .ok (.inl i) s
  | none => .bad
def kR : Option (Option RV) → Option RV
  | some (some (.v x)) => some (.v x)
  | some (some (.l vs)) => some (.f vs)
  | some (some (.f vs)) => some (.f vs)
  | some (some (.z vs)) => some (.z vs)
  | _ => none
def kC : Option RV → Option (List RV) → Option (List RV)
  | some r, some rs => some (r :: rs)
  | _, _ => none
def kRd (s : S) : Option (Option RV) → Rs RV
  | some (some (.v x)) => .ok (.v x) s
  | _ => .bad
def kV (s : S) : Option IV → Rs RV
  | some x => .ok (.v x) s
  | none => .bad
def kAt (i : Int) (s : S) : Option (List IV) → Rs RV
  | some vs => kV s (atI vs i)
  | none => .bad
def kTu (s : S) : Option (List IV) → Rs RV
  | some vs => .ok (.v (.tup vs)) s
  | none => .bad
def kLi (s : S) : Option (List IV) → Rs RV
  | some vs => .ok (.l vs) s
  | none => .bad
def kB1 (x : IV) : Option (List IV × S) → Option (List IV × S)
  | some p => some (x :: p.1, p.2)
  | none => none
def kTup : Option (List IV × S) → Rs RV
  | some (vs, s1) => (match decide (vs.length ≤ 100000) with
    | true => .ok (.v (.tup vs)) s1
    | false => .bad)
  | none => .bad
def kLst : Option (List IV × S) → Rs RV
  | some (vs, s1) => (match decide (vs.length ≤ 100000) with
    | true => .ok (.l vs) s1
    | false => .bad)
  | none => .bad
def kCall (env : List (Option RV)) : Fo → Rs RV
  | .ok r hp => .ok r ⟨env, hp⟩
  | .exn c fs hp => .exn c fs ⟨env, hp⟩
  | .bad => .bad
def kMk (s : S) : Fo → Rs RV
  | .ok (.v .non) hp => .ok (.v (.ref s.hp.length)) ⟨s.env, hp⟩
  | _ => .bad
def kBox : Rs RV → Rs RV
  | .ok (.l vs) s => .ok (.v (.ref s.hp.length)) ⟨s.env, s.hp ++ [.lst vs]⟩
  | r => r
def kAp3 (i : Nat) (x : IV) (s2 : S) : Option (Option RV) → Rs RV
  | some (some (.l vs)) => (match decide (vs.length < 100000) with
          | true => .ok (.v .non) ⟨s2.env.set i (some (.l (vs ++ [x]))), s2.hp⟩
          | false => .bad)
  | _ => .bad
def kAp2 (i : Nat) : Option (IV × S) → Rs RV
  | some (x, s2) => kAp3 i x s2 s2.env[i]?
  | none => .bad
def kApp (i : Nat) : Rs RV → Rs RV
  | .ok r s1 => kAp2 i (boxV r s1)
  | .exn c fs s => .exn c fs s
  | .bad => .bad
def kAs2 : Option S → Rs Fl
  | some s => .ok .nx s
  | none => .bad
def kAsg (p : IV → S → Option S) : Rs RV → Rs Fl
  | .ok (.v x) s => kAs2 (p x s)
  | .ok _ _ => .bad
  | .exn c fs s => .exn c fs s
  | .bad => .bad
def kIs (cs : List Str) (t : Ty0) (s : S) : Option (Sum Ty0 Str) → Rs RV
  | some (.inl u) => .ok (.v (.bl (isa u t))) s
  | some (.inr c) => (match decide (c ∈ cs) with
      | true => .ok (.v (.bl false)) s
      | false => .bad)
  | none => .bad
def kIs2 (cs : List Str) (t t' : Ty0) (s : S) : Option (Sum Ty0 Str) → Rs RV
  | some (.inl u) => .ok (.v (.bl (isa u t || isa u t'))) s
  | some (.inr c) => (match decide (c ∈ cs) with
      | true => .ok (.v (.bl false)) s
      | false => .bad)
  | none => .bad
def kPut (is : List Nat) (rs : List RV) : Rs Fl → Rs Fl
  | .ok _ s => putL is rs s
  | .exn c fs s => .exn c fs s
  | .bad => .bad
variable {a : α} {s : S} {m n : M Fl} {x y z : M RV} {c d : M Bool} {os : List Opd} {o oa ob oc : Opd} {i : Nat} {g : List RV → S → Rs α} {hp : List IO} {env : List (Option RV)} {q : Str} {fs : List (Str × IV)} {vs us : List IV} {v : IV} {b : Bool} {r : RV} {rs : List RV} {p : Pn} {ps : List Pn}
theorem ev_C : mC v s = .ok (.v v) s := rfl
theorem ev_tr : mTrue s = .ok true s := rfl
theorem ev_Nx : mNx s = .ok .nx s := rfl
theorem ev_Rd : mRd i s = kRd s s.env[i]? := rfl
theorem kRd1 : kRd s (some (some (.v v))) = .ok (.v v) s := rfl
theorem ev_N : mN os g s = kN g (runL os s) := by
  unfold mN kN
  cases runL os s <;> rfl
theorem kN1 : kN g (.ok ps s) = kG g s (rdL s.env ps) := rfl
theorem kN2 : kN g (.exn q fs s) = .exn q fs s := rfl
theorem kG1 : kG g s (some rs) = g rs s := rfl
theorem ev_L0 : runL [] s = .ok [] s := rfl
theorem ev_L1 : runL (o :: os) s = kL1 os (o.run s) := by
  unfold kL1
  rw [runL]
  cases o.run s with
  | ok p s1 => show (runL os s1).bind _ = kL2 p (runL os s1); cases runL os s1 <;> rfl
  | exn c fs s => rfl
  | bad => rfl
theorem kL1a : kL1 os (.ok p s) = kL2 p (runL os s) := rfl
theorem kL1b : kL1 os (.exn q fs s) = .exn q fs s := rfl
theorem kL2a : kL2 p (.ok ps s) = .ok (p :: ps) s := rfl
theorem kL2b : kL2 p (.exn q fs s) = .exn q fs s := rfl
theorem ev_nm : Opd.run (.nm i) s = kNm i s (rdS s.env i) := by
  unfold kNm
  rw [Opd.run] <;> cases rdS s.env i <;> rfl
theorem kNm1 : kNm i s (some r) = .ok (.inl i) s := rfl
theorem ev_ex : Opd.run (.ex x) s = kX (x s) := by
  rw [Opd.run]
  cases x s with
  | ok r s1 => cases r <;> rfl
  | exn c fs s => rfl
  | bad => rfl
theorem kX1 : kX (.ok (.v v) s) = .ok (.inr (.v v)) s := rfl
theorem kX2 : kX (.ok (.l vs) s) = .ok (.inr (.l vs)) s := rfl
theorem kX3 : kX (.exn q fs s) = .exn q fs s := rfl
theorem ev_T : mTest x s = kT (x s) := by
  unfold mTest kT
  cases x s with
  | ok r s1 => rcases r with (_ | _ | _ | _ | _ | _ | _) | _ | _ | _ <;> rfl
  | exn c fs s => rfl
  | bad => rfl
theorem kT1 : kT (.ok (.v (.bl b)) s) = .ok b s := rfl
theorem kT2 : kT (.exn q fs s) = .exn q fs s := rfl
theorem ev_B : mB c s = kB (c s) := by
  unfold mB kB
  cases c s <;> rfl
theorem kB1a : kB (.ok b s) = .ok (.v (.bl b)) s := rfl
theorem ev_And : mAnd c d s = kIf d (fun s => .ok false s) (c s) := by
  unfold mAnd kIf
  cases c s with
  | ok b s1 => cases b <;> rfl
  | exn c fs s => rfl
  | bad => rfl
theorem ev_Or : mOr c d s = kIf (fun s => .ok true s) d (c s) := by
  unfold mOr kIf
  cases c s with
  | ok b s1 => cases b <;> rfl
  | exn c fs s => rfl
  | bad => rfl
theorem ev_Not : mNot c s = kNot (c s) := by
  unfold mNot kNot
  cases c s <;> rfl
theorem kNot1 : kNot (.ok b s) = .ok (!b) s := rfl
theorem ev_If {u w : M α} : mIf c u w s = kIf u w (c s) := by
  unfold mIf kIf
  cases c s with
  | ok b s1 => cases b <;> rfl
  | exn c fs s => rfl
  | bad => rfl
theorem ev_IfS : mIfS c m n s = kIf m n (c s) := by
  unfold mIfS kIf
  cases c s with
  | ok b s1 => cases b <;> rfl
  | exn c fs s => rfl
  | bad => rfl
theorem kIf1 {u w : M α} : kIf u w (.ok true s) = u s := rfl
theorem kIf2 {u w : M α} : kIf u w (.ok false s) = w s := rfl
theorem kIf3 {u w : M α} : kIf u w (.exn q fs s) = .exn q fs s := rfl
theorem ev_Seq : mSeq m n s = kSeq n (m s) := by
  unfold mSeq kSeq
  cases m s with
  | ok r s1 => cases r <;> rfl
  | exn c fs s => rfl
  | bad => rfl
theorem kSeq1 : kSeq n (.ok .nx s) = n s := rfl
theorem kSeq2 : kSeq n (.ok (.rt r) s) = .ok (.rt r) s := rfl
theorem kSeq3 : kSeq n (.exn q fs s) = .exn q fs s := rfl
theorem ev_Drop : mDrop x s = kDrop (x s) := by
  unfold mDrop kDrop
  cases x s <;> rfl
theorem kDrop1 : kDrop (.ok r s) = .ok .nx s := rfl
theorem kDrop2 : kDrop (.exn q fs s) = .exn q fs s := rfl
theorem ev_Set : mSet i x s = kSet i (x s) := by
  unfold mSet kSet
  cases x s <;> rfl
theorem kSet1 : kSet i (.ok (.v v) s) = .ok .nx ⟨s.env.set i (some (.v v)), s.hp⟩ := rfl
theorem kSet2 : kSet i (.ok (.l vs) s) = .ok .nx ⟨s.env.set i (some (.l vs)), s.hp⟩ := rfl
theorem ev_Ret : mRet x s = kRet (x s) := by
  unfold mRet kRet
  cases x s with
  | ok r s1 => cases r <;> rfl
  | exn c fs s => rfl
  | bad => rfl
theorem kRet1 : kRet (.ok (.v v) s) = .ok (.rt (.v v)) s := rfl
theorem kRet2 : kRet (.ok (.l vs) s) = .ok (.rt (.l vs)) s := rfl
theorem kRet3 : kRet (.exn q fs s) = .exn q fs s := rfl
theorem ev_Par {is : List Nat} : mPar is os s = kN (fun rs s => putL is rs s) (runL os s) := ev_N
theorem ev_pL0 : putL [] [] s = .ok .nx s := rfl
theorem ev_pL1 {is : List Nat} : putL (i :: is) (r :: rs) s = kPut is rs (putS i r s) := by
  rw [putL]
  unfold kPut
  cases putS i r s <;> rfl
theorem kPut1 {is : List Nat} : kPut is rs (.ok .nx s) = putL is rs s := rfl
theorem ev_put1 : putS i (.v v) s = .ok .nx ⟨s.env.set i (some (.v v)), s.hp⟩ := rfl
theorem ev_put2 : putS i (.l vs) s = .ok .nx ⟨s.env.set i (some (.l vs)), s.hp⟩ := rfl
theorem ev_Asg {w : IV → S → Option S} : mAsg w x s = kAsg w (x s) := by
  unfold mAsg kAsg
  cases x s with
  | ok r s1 =>
    cases r with
    | v u => show (match w u s1 with | some s2 => Rs.ok Fl.nx s2 | none => .bad) = kAs2 (w u s1); cases w u s1 <;> rfl
    | l _ => rfl
    | f _ => rfl
    | z _ => rfl
  | exn c fs s => rfl
  | bad => rfl
theorem kAsg1 {w : IV → S → Option S} : kAsg w (.ok (.v v) s) = kAs2 (w v s) := rfl
theorem kAs2a : kAs2 (some s) = .ok .nx s := rfl
theorem ev_Box : mBox x s = kBox (x s) := by
  unfold mBox kBox
  cases x s with
  | ok r s1 => cases r <;> rfl
  | exn c fs s => rfl
  | bad => rfl
theorem kBox1 : kBox (.ok (.l vs) s) = .ok (.v (.ref s.hp.length)) ⟨s.env, s.hp ++ [.lst vs]⟩ := rfl
theorem kBox2 : kBox (.ok (.v v) s) = .ok (.v v) s := rfl
theorem ev_Call : ∀ {f : Fn}, mCall f os s = kN (gCall f) (runL os s) := ev_N
theorem ev_gCall : ∀ {f : Fn}, gCall f rs s = kCall s.env (f rs s.hp) := by
  intro f
  unfold gCall kCall
  cases f rs s.hp <;> rfl
theorem kCall1 : kCall env (.ok r hp) = .ok r ⟨env, hp⟩ := rfl
theorem kCall2 : kCall env (.exn q fs hp) = .exn q fs ⟨env, hp⟩ := rfl
theorem ev_Make : ∀ {f : Fn} {q : Str}, mMake q f os s = kN (gMake q f) (runL os s) := ev_N
theorem ev_gMake : ∀ {f : Fn} {q : Str}, gMake q f rs s = kMk s (f (.v (.ref s.hp.length) :: rs) (s.hp ++ [.ins q []])) := by
  intro f q
  unfold gMake kMk
  rcases f (.v (.ref s.hp.length) :: rs) (s.hp ++ [.ins q []]) with ⟨r, _⟩ | _ | _
  · rcases r with (_ | _ | _ | _ | _ | _ | _) | _ | _ | _ <;> rfl
  · rfl
  · rfl
theorem kMk1 : kMk s (.ok (.v .non) hp) = .ok (.v (.ref s.hp.length)) ⟨s.env, hp⟩ := rfl
theorem ev_Raise : mRaise q s = .exn q [] s := rfl
theorem ev_rdL0 : rdL env [] = some [] := rfl
theorem ev_rdL1 : rdL env (p :: ps) = kC (rd env p) (rdL env ps) := by
  rw [rdL]
  cases rd env p with
  | none => rfl
  | some r => cases rdL env ps <;> rfl
theorem kC1 : kC (some r) (some rs) = some (r :: rs) := rfl
theorem ev_rdl : rd env (.inl i) = rdS env i := rfl
theorem ev_rdr : rd env (.inr r) = some r := rfl
theorem ev_rdS : rdS env i = kR env[i]? := by
  unfold rdS kR
  cases env[i]? with
  | none => rfl
  | some u => cases u with
    | none => rfl
    | some r => cases r <;> rfl
theorem kR1 : kR (some (some (.v v))) = some (.v v) := rfl
theorem kR2 : kR (some (some (.l vs))) = some (.f vs) := rfl
theorem kR3 : kR (some (some (.f vs))) = some (.f vs) := rfl
theorem kR4 : kR (some (some (.z vs))) = some (.z vs) := rfl
theorem ev_sq1 : seqOf s (.v (.tup vs)) = some vs := rfl
theorem ev_sq2 : seqOf s (.l vs) = some vs := rfl
theorem ev_sq3 : seqOf s (.f vs) = some vs := rfl
theorem ev_sq4 : seqOf s (.z vs) = some vs := rfl
theorem ev_I2 : ∀ {f : Int → Int → IV} {i j : Int}, gI2 f [.v (.int i), .v (.int j)] s = .ok (.v (f i j)) s := rfl
theorem ev_I2c {C : Int → Int → Bool} {f : Int → Int → IV} {i j : Int} (h : C i j = true) : gI2c C f [.v (.int i), .v (.int j)] s = .ok (.v (f i j)) s := by
  unfold gI2c
  simp only [h]
theorem ev_I1 : ∀ {f : Int → IV} {i : Int}, gI1 f [.v (.int i)] s = .ok (.v (f i)) s := rfl
theorem ev_Abs : ∀ {i : Int}, gAbs [.v (.int i)] s = .ok (.v (.int (if i < 0 then -i else i))) s := rfl
theorem ev_Int : ∀ {i : Int}, gInt [.v (.int i)] s = .ok (.v (.int i)) s := rfl
theorem ev_At : ∀ {i : Int}, gAt [r, .v (.int i)] s = kAt i s (seqOf s r) := by
  intro i
  show (match seqOf s r with | some vs => (match atI vs i with | some x => (Rs.ok (RV.v x) s : Rs RV) | none => .bad) | none => .bad) = _
  cases seqOf s r with
  | none => rfl
  | some vs => show (match atI vs i with | some x => (Rs.ok (RV.v x) s : Rs RV) | none => .bad) = kV s (atI vs i); cases atI vs i <;> rfl
theorem kAt1 : ∀ {i : Int}, kAt i s (some vs) = kV s (atI vs i) := rfl
theorem kV1 : kV s (some v) = .ok (.v v) s := rfl
theorem ev_Len1 : gLen [.v (.tup vs)] s = .ok (.v (.int vs.length)) s := rfl
theorem ev_Len2 : gLen [.l vs] s = .ok (.v (.int vs.length)) s := rfl
theorem ev_Len3 : gLen [.f vs] s = .ok (.v (.int vs.length)) s := rfl
theorem ev_Tuple : gTuple [r] s = kTu s (seqOf s r) := by
  show (match seqOf s r with | some vs => (Rs.ok (RV.v (.tup vs)) s : Rs RV) | none => .bad) = _
  cases seqOf s r <;> rfl
theorem kTu1 : kTu s (some vs) = .ok (.v (.tup vs)) s := rfl
theorem ev_List : gList [r] s = kLi s (seqOf s r) := by
  show (match seqOf s r with | some vs => (Rs.ok (RV.l vs) s : Rs RV) | none => .bad) = _
  cases seqOf s r <;> rfl
theorem kLi1 : kLi s (some vs) = .ok (.l vs) s := rfl
theorem ev_bx0 : boxL [] s = some ([], s) := rfl
theorem ev_bx1 : boxL (.v v :: rs) s = kB1 v (boxL rs s) := by
  rw [boxL]
  cases boxL rs s <;> rfl
theorem ev_bx2 : boxL (.l vs :: rs) s = kB1 (.ref s.hp.length) (boxL rs ⟨s.env, s.hp ++ [.lst vs]⟩) := by
  rw [boxL]
  cases boxL rs ⟨s.env, s.hp ++ [.lst vs]⟩ <;> rfl
theorem kB1b : kB1 v (some (vs, s)) = some (v :: vs, s) := rfl
theorem ev_bv1 : boxV (.v v) s = some (v, s) := rfl
theorem ev_Tup : gTup rs s = kTup (boxL rs s) := by
  unfold gTup kTup
  cases boxL rs s <;> rfl
theorem kTup1 (h : vs.length ≤ 100000) : kTup (some (vs, s)) = .ok (.v (.tup vs)) s := by
  unfold kTup
  simp only [decide_eq_true h]
theorem ev_Lst : gLst rs s = kLst (boxL rs s) := by
  unfold gLst kLst
  cases boxL rs s <;> rfl
theorem kLst1 (h : vs.length ≤ 100000) : kLst (some (vs, s)) = .ok (.l vs) s := by
  unfold kLst
  simp only [decide_eq_true h]
theorem kTup_0 : kTup (some ([], s)) = .ok (.v (.tup [])) s := kTup1 (Nat.le_of_ble_eq_true rfl)
theorem kLst_0 : kLst (some ([], s)) = .ok (.l []) s := kLst1 (Nat.le_of_ble_eq_true rfl)
theorem kTup_1 {u0 : IV} : kTup (some ([u0], s)) = .ok (.v (.tup [u0])) s := kTup1 (Nat.le_of_ble_eq_true rfl)
theorem kLst_1 {u0 : IV} : kLst (some ([u0], s)) = .ok (.l [u0]) s := kLst1 (Nat.le_of_ble_eq_true rfl)
theorem kTup_2 {u0 u1 : IV} : kTup (some ([u0, u1], s)) = .ok (.v (.tup [u0, u1])) s := kTup1 (Nat.le_of_ble_eq_true rfl)
theorem kLst_2 {u0 u1 : IV} : kLst (some ([u0, u1], s)) = .ok (.l [u0, u1]) s := kLst1 (Nat.le_of_ble_eq_true rfl)
theorem kTup_3 {u0 u1 u2 : IV} : kTup (some ([u0, u1, u2], s)) = .ok (.v (.tup [u0, u1, u2])) s := kTup1 (Nat.le_of_ble_eq_true rfl)
theorem kLst_3 {u0 u1 u2 : IV} : kLst (some ([u0, u1, u2], s)) = .ok (.l [u0, u1, u2]) s := kLst1 (Nat.le_of_ble_eq_true rfl)
theorem kTup_4 {u0 u1 u2 u3 : IV} : kTup (some ([u0, u1, u2, u3], s)) = .ok (.v (.tup [u0, u1, u2, u3])) s := kTup1 (Nat.le_of_ble_eq_true rfl)
theorem kLst_4 {u0 u1 u2 u3 : IV} : kLst (some ([u0, u1, u2, u3], s)) = .ok (.l [u0, u1, u2, u3]) s := kLst1 (Nat.le_of_ble_eq_true rfl)
theorem kTup_5 {u0 u1 u2 u3 u4 : IV} : kTup (some ([u0, u1, u2, u3, u4], s)) = .ok (.v (.tup [u0, u1, u2, u3, u4])) s := kTup1 (Nat.le_of_ble_eq_true rfl)
theorem kLst_5 {u0 u1 u2 u3 u4 : IV} : kLst (some ([u0, u1, u2, u3, u4], s)) = .ok (.l [u0, u1, u2, u3, u4]) s := kLst1 (Nat.le_of_ble_eq_true rfl)
theorem kTup_6 {u0 u1 u2 u3 u4 u5 : IV} : kTup (some ([u0, u1, u2, u3, u4, u5], s)) = .ok (.v (.tup [u0, u1, u2, u3, u4, u5])) s := kTup1 (Nat.le_of_ble_eq_true rfl)
theorem kLst_6 {u0 u1 u2 u3 u4 u5 : IV} : kLst (some ([u0, u1, u2, u3, u4, u5], s)) = .ok (.l [u0, u1, u2, u3, u4, u5]) s := kLst1 (Nat.le_of_ble_eq_true rfl)
theorem kTup_7 {u0 u1 u2 u3 u4 u5 u6 : IV} : kTup (some ([u0, u1, u2, u3, u4, u5, u6], s)) = .ok (.v (.tup [u0, u1, u2, u3, u4, u5, u6])) s := kTup1 (Nat.le_of_ble_eq_true rfl)
theorem kLst_7 {u0 u1 u2 u3 u4 u5 u6 : IV} : kLst (some ([u0, u1, u2, u3, u4, u5, u6], s)) = .ok (.l [u0, u1, u2, u3, u4, u5, u6]) s := kLst1 (Nat.le_of_ble_eq_true rfl)
theorem ev_App0 (h : s.env[i]? = some (some (.l vs))) : mApp i x s = kApp i (x s) := by
  unfold mApp
  rw [h]
  cases x s with
  | ok r s1 =>
    show (match boxV r s1 with | some (x, s2) => _ | none => _) = kAp2 i (boxV r s1)
    cases boxV r s1 with
    | none => rfl
    | some u =>
      obtain ⟨u, s2⟩ := u
      show (match s2.env[i]? with | some (some (.l vs)) => _ | _ => _) = kAp3 i u s2 s2.env[i]?
      cases s2.env[i]? with
      | none => rfl
      | some w => cases w with
        | none => rfl
        | some w => cases w <;> rfl
  | exn c fs s => rfl
  | bad => rfl
theorem kApp1 : kApp i (.ok r s) = kAp2 i (boxV r s) := rfl
theorem kAp2a : kAp2 i (some (v, s)) = kAp3 i v s s.env[i]? := rfl
theorem kAp3a (h : vs.length < 100000) : kAp3 i v s (some (some (.l vs))) = .ok (.v .non) ⟨s.env.set i (some (.l (vs ++ [v]))), s.hp⟩ := by
  unfold kAp3
  simp only [decide_eq_true h]
theorem ev_IsN : ∀ {neg : Bool}, gIsN neg [.v v] s = .ok (.v (.bl (if neg then !isNon v else isNon v))) s := rfl
theorem ev_IsT : ∀ {cs : List Str} {t : Ty0}, gIsT cs t [r] s = kIs cs t s (tyV0 s r) := by
  intro cs t
  show (match tyV0 s r with | some (.inl u) => (Rs.ok (RV.v (.bl (isa u t))) s : Rs RV) | some (.inr c) => (match decide (c ∈ cs) with | true => .ok (.v (.bl false)) s | false => .bad) | none => .bad) = _
  rcases tyV0 s r with _ | _ | _ <;> rfl
theorem ev_IsT2 : ∀ {cs : List Str} {t t1 : Ty0}, gIsT2 cs t t1 [r] s = kIs2 cs t t1 s (tyV0 s r) := by
  intro cs t t1
  show (match tyV0 s r with | some (.inl u) => (Rs.ok (RV.v (.bl (isa u t || isa u t1))) s : Rs RV) | some (.inr c) => (match decide (c ∈ cs) with | true => .ok (.v (.bl false)) s | false => .bad) | none => .bad) = _
  rcases tyV0 s r with _ | _ | _ <;> rfl
theorem kIs1 : ∀ {cs : List Str} {t u : Ty0}, kIs cs t s (some (.inl u)) = .ok (.v (.bl (isa u t))) s := rfl
theorem kIs2a : ∀ {cs : List Str} {t t1 u : Ty0}, kIs2 cs t t1 s (some (.inl u)) = .ok (.v (.bl (isa u t || isa u t1))) s := rfl
theorem ev_ty1 : tyV0 s (.v (.tup vs)) = some (.inl .tuple) := rfl
theorem ev_ty2 : ∀ {u : Str}, tyV0 s (.v (.str u)) = some (.inl .str) := rfl
theorem ev_ty3 : ∀ {u : Int}, tyV0 s (.v (.int u)) = some (.inl .int) := rfl
theorem ev_ty4 : tyV0 s (.v .non) = some (.inl .non) := rfl
theorem ev_ty5 : tyV0 s (.v (.bl b)) = some (.inl .bool) := rfl
theorem ev_ty7 : tyV0 s (.l vs) = some (.inl .list) := rfl
theorem ev_ty8 : tyV0 s (.f vs) = some (.inl .list) := rfl
theorem ev_SlH : ∀ {i : Int}, gSlH [r, .v (.int i)] s = fSl r none (some i) s := rfl
theorem ev_SlL : ∀ {i : Int}, gSlL [r, .v (.int i)] s = fSl r (some i) none s := rfl
theorem fSl1 : ∀ {lo hi : Option Int}, fSl (.v (.tup vs)) lo hi s = .ok (.v (.tup (cutI vs lo hi))) s := rfl
theorem fSl2 : ∀ {lo hi : Option Int}, fSl (.l vs) lo hi s = .ok (.l (cutI vs lo hi)) s := rfl
theorem fSl3 : ∀ {lo hi : Option Int}, fSl (.f vs) lo hi s = .ok (.l (cutI vs lo hi)) s := rfl
theorem fSl4 : ∀ {lo hi : Option Int}, fSl (.z vs) lo hi s = .ok (.l (cutI vs lo hi)) s := rfl
theorem ev_sN : setN i v s = some ⟨s.env.set i (some (.v v)), s.hp⟩ := rfl
def kSq : Option IO → Option (List IV)
  | some (.lst vs) => some vs
  | _ => none
theorem ev_sq5 {n : Nat} : seqOf s (.v (.ref n)) = kSq s.hp[n]? := by
  simp only [seqOf]
  cases s.hp[n]? with
  | none => rfl
  | some o => cases o <;> rfl
theorem kSq1 : kSq (some (.lst vs)) = some vs := rfl
def kTy : Option IO → Option (Sum Ty0 Str)
  | some (.lst _) => some (.inl .list)
  | some (.dct _) => some (.inl .dict)
  | some (.ins c _) => some (.inr c)
  | none => none
theorem ev_ty6 {n : Nat} : tyV0 s (.v (.ref n)) = kTy s.hp[n]? := by
  simp only [tyV0]
  cases s.hp[n]? with
  | none => rfl
  | some o => cases o <;> rfl
theorem kTy1 : kTy (some (.lst vs)) = some (.inl .list) := rfl
theorem kTy2 {ws : List (Str × IV)} : kTy (some (.ins q ws)) = some (.inr q) := rfl
def kLe (s : S) : Option (List IV) → Rs RV
  | some vs => .ok (.v (.int vs.length)) s
  | none => .bad
theorem kLe1 : kLe s (some vs) = .ok (.v (.int vs.length)) s := rfl
def kFl2 (s : S) : Bool → Option IV → Rs RV
  | true, some x => .ok (.v x) s
  | _, _ => .bad
def kFl (cs : List Str) (f : Str) (s : S) : Option IO → Rs RV
  | some (.ins c fs) => kFl2 s (decide (c ∈ cs)) (fs.lookup f)
  | _ => .bad
theorem ev_Fl {cs : List Str} {n : Nat} : gFl cs q [.v (.ref n)] s = kFl cs q s s.hp[n]? := by
  show (match s.hp[n]? with | some (.ins c fs) => (match decide (c ∈ cs), fs.lookup q with | true, some x => (Rs.ok (RV.v x) s : Rs RV) | _, _ => .bad) | _ => .bad) = _
  unfold kFl
  cases s.hp[n]? with
  | none => rfl
  | some o =>
    cases o with
    | ins c fs => rfl
    | lst _ => rfl
    | dct _ => rfl
theorem kFl1 {cs : List Str} {ws : List (Str × IV)} {c : Str} : kFl cs q s (some (.ins c ws)) = kFl2 s (decide (c ∈ cs)) (ws.lookup q) := rfl
theorem kFl2a : kFl2 s true (some v) = .ok (.v v) s := rfl
def kSI2 (x : IV) (n : Nat) (s : S) (vs : List IV) : Option Nat → Rs Fl
  | some j => .ok .nx ⟨s.env, s.hp.set n (.lst (vs.set j x))⟩
  | none => .bad
def kSI (x : IV) (n : Nat) (i : Int) (s : S) : Option IO → Rs Fl
  | some (.lst vs) => kSI2 x n s vs (ixN vs.length i)
  | _ => .bad
theorem ev_SI {n : Nat} {i : Int} : gSetI [.v v, .v (.ref n), .v (.int i)] s = kSI v n i s s.hp[n]? := by
  show (match s.hp[n]? with | some (.lst vs) => (match ixN vs.length i with | some j => (Rs.ok Fl.nx (wrO n (.lst (vs.set j v)) s) : Rs Fl) | none => .bad) | _ => .bad) = _
  unfold kSI
  cases s.hp[n]? with
  | none => rfl
  | some o =>
    cases o with
    | ins c fs => rfl
    | lst vs =>
      show (match ixN vs.length i with | some j => (Rs.ok Fl.nx (wrO n (.lst (vs.set j v)) s) : Rs Fl) | none => .bad) = kSI2 v n s vs (ixN vs.length i)
      cases ixN vs.length i <;> rfl
    | dct _ => rfl
theorem kSI1 {n : Nat} {i : Int} : kSI v n i s (some (.lst vs)) = kSI2 v n s vs (ixN vs.length i) := rfl
theorem kSI2a {n j : Nat} : kSI2 v n s vs (some j) = .ok .nx ⟨s.env, s.hp.set n (.lst (vs.set j v))⟩ := rfl
def kSF2 (f : Str) (x : IV) (n : Nat) (s : S) (c : Str) (fs : List (Str × IV)) : Bool → Rs Fl
  | true => .ok .nx ⟨s.env, s.hp.set n (.ins c (putI f x fs))⟩
  | false => .bad
def kSF (cs : List Str) (f : Str) (x : IV) (n : Nat) (s : S) : Option IO → Rs Fl
  | some (.ins c fs) => kSF2 f x n s c fs (decide (c ∈ cs) && decide (fs.length < 1000))
  | _ => .bad
theorem ev_SF {cs : List Str} {n : Nat} : gSetF cs q [.v v, .v (.ref n)] s = kSF cs q v n s s.hp[n]? := by
  show (match s.hp[n]? with | some (.ins c fs) => (match decide (c ∈ cs) && decide (fs.length < 1000) with | true => (Rs.ok Fl.nx (wrO n (.ins c (putI q v fs)) s) : Rs Fl) | false => .bad) | _ => .bad) = _
  unfold kSF
  cases s.hp[n]? with
  | none => rfl
  | some o =>
    cases o with
    | ins c fs =>
      show (match decide (c ∈ cs) && decide (fs.length < 1000) with | true => (Rs.ok Fl.nx (wrO n (.ins c (putI q v fs)) s) : Rs Fl) | false => .bad) = kSF2 q v n s c fs (decide (c ∈ cs) && decide (fs.length < 1000))
      cases decide (c ∈ cs) && decide (fs.length < 1000) <;> rfl
    | lst _ => rfl
    | dct _ => rfl
theorem kSF1 {cs : List Str} {n : Nat} {c : Str} {ws : List (Str × IV)} : kSF cs q v n s (some (.ins c ws)) = kSF2 q v n s c ws (decide (c ∈ cs) && decide (ws.length < 1000)) := rfl
theorem kSF2a {n : Nat} {c : Str} {ws : List (Str × IV)} : kSF2 q v n s c ws true = .ok .nx ⟨s.env, s.hp.set n (.ins c (putI q v ws))⟩ := rfl
def isL : Option (Option RV) → Bool
  | some (some (.l _)) => true
  | _ => false
def kAp0 (i : Nat) (x : M RV) (s : S) : Option (Option RV) → Rs RV
  | some (some (.l _)) => kApp i (x s)
  | _ => mApp i x s
theorem ev_App : mApp i x s = kAp0 i x s s.env[i]? := by
  rcases q : s.env[i]? with _ | _ | _ | vs | _ | _
  · rfl
  · rfl
  · rfl
  · exact ev_App0 q
  · rfl
  · rfl
theorem kAp0a : kAp0 i x s (some (some (.l vs))) = kApp i (x s) := rfl
theorem isL1 : isL (some (some (.l vs))) = true := rfl
theorem ev_LenS {z : Str} (h : z.length ≤ 100000) : gLen [.v (.str z)] s = .ok (.v (.int z.length)) s := by
  unfold gLen
  simp only [decide_eq_true h]
theorem ev_Len4 {n : Nat} : gLen [.v (.ref n)] s = kLe s (kSq s.hp[n]?) := by
  unfold gLen
  simp only [ev_sq5]
  cases kSq s.hp[n]? <;> rfl
theorem ev_CatT {vs us : List IV} (h : vs.length + us.length ≤ 100000) : gCatT [.v (.tup vs), .v (.tup us)] s = .ok (.v (.tup (vs ++ us))) s := by
  unfold gCatT
  simp only [decide_eq_true h]
theorem ev_CatL {vs us : List IV} (h : vs.length + us.length ≤ 100000) : gCatL [.l vs, .l us] s = .ok (.l (vs ++ us)) s := by
  unfold gCatL
  simp only [lstOf, decide_eq_true h]
end
theorem bd_ok {α β : Type} {a : α} {s : S} {f : α → S → Rs β} : (Rs.ok a s).bind f = f a s := rfl
theorem atI_nat {γ : Type} {xs : List γ} {k : Nat} {v : γ} (h : xs[k]? = some v) : atI xs (k : Int) = some v := by
  have hl := (List.getElem?_eq_some_iff.mp h).1
  unfold atI ixN
  rw [if_pos (Int.natCast_nonneg k), if_pos (by omega)]
  show xs[(k : Int).toNat]? = some v
  rw [Int.toNat_natCast]
  exact h
theorem atI_0 {γ : Type} {u0 : γ} {xs : List γ} : atI (u0 :: xs) 0 = some u0 := atI_nat (k := 0) rfl
theorem atI_1 {γ : Type} {u0 u1 : γ} {xs : List γ} : atI (u0 :: u1 :: xs) 1 = some u1 := atI_nat (k := 1) rfl
theorem atI_2 {γ : Type} {u0 u1 u2 : γ} {xs : List γ} : atI (u0 :: u1 :: u2 :: xs) 2 = some u2 := atI_nat (k := 2) rfl
theorem atI_3 {γ : Type} {u0 u1 u2 u3 : γ} {xs : List γ} : atI (u0 :: u1 :: u2 :: u3 :: xs) 3 = some u3 := atI_nat (k := 3) rfl
theorem atI_4 {γ : Type} {u0 u1 u2 u3 u4 : γ} {xs : List γ} : atI (u0 :: u1 :: u2 :: u3 :: u4 :: xs) 4 = some u4 := atI_nat (k := 4) rfl
theorem atI_5 {γ : Type} {u0 u1 u2 u3 u4 u5 : γ} {xs : List γ} : atI (u0 :: u1 :: u2 :: u3 :: u4 :: u5 :: xs) 5 = some u5 := atI_nat (k := 5) rfl
def kFor (F : M Fl) : Rs Fl → Rs Fl
  | .ok .nx s => F s
  | .ok .ct s => F s
  | .ok .bk s => .ok .nx s
  | .ok (.rt r) s => .ok (.rt r) s
  | .exn c fs s => .exn c fs s
  | .bad => .bad
theorem kFor1 {F : M Fl} {s : S} : kFor F (.ok .nx s) = F s := rfl
theorem kFor2 {F : M Fl} {s : S} {c : Str} {fs : List (Str × IV)} : kFor F (.exn c fs s) = .exn c fs s := rfl
theorem forL_step {src : Src} {p : IV → S → Option S} {body : M Fl} {vs : List IV} {x : IV} {s s1 : S} {m : Nat} (hs : src s = some vs) (hx : vs[vs.length - (m + 1)]? = some x) (hp : p x s = some s1) : forL src vs.length p body (m + 1) s = kFor (forL src vs.length p body m) (body s1) := by
  rw [forL]
  simp only [hs, decide_true, hx, hp]
  cases body s1 with
  | ok f s2 => cases f <;> rfl
  | exn c fs s => rfl
  | bad => rfl
theorem forL_end {src : Src} {p : IV → S → Option S} {body : M Fl} {vs : List IV} {s : S} (hs : src s = some vs) : forL src vs.length p body 0 s = .ok .nx s := by
  rw [forL]
  simp only [hs, decide_true]
theorem mFor_eq {mi : M Src} {src : Src} {p : IV → S → Option S} {body : M Fl} {vs : List IV} {s s1 : S} (hi : mi s = .ok src s1) (hs : src s1 = some vs) : mFor mi p body s = forL src vs.length p body vs.length s1 := by
  unfold mFor
  simp only [hi, bd_ok, hs]
def fin (r : Rs Fl) : Fo := match r with
  | .ok .nx s => .ok (.v .non) s.hp
  | .ok (.rt (.f _)) _ => .bad
  | .ok (.rt r) s => .ok r s.hp
  | .exn c fs s => .exn c fs s.hp
  | _ => .bad
theorem mkFn_fin (n np : Nat) (body : M Fl) (rs : List RV) (hp : List IO) (h : (decide (rs.length = np) && decide (np ≤ n)) = true) : mkFn n np body rs hp = fin (body ⟨rs.map some ++ List.replicate (n - np) none, hp⟩) := by
  unfold mkFn
  rw [h]
  rfl
theorem fin1 {s : S} : fin (.ok .nx s) = .ok (.v .non) s.hp := rfl
theorem fin2 {s : S} {v : IV} : fin (.ok (.rt (.v v)) s) = .ok (.v v) s.hp := rfl
theorem fin3 {s : S} {vs : List IV} : fin (.ok (.rt (.l vs)) s) = .ok (.l vs) s.hp := rfl
theorem fin4 {s : S} {c : Str} {fs : List (Str × IV)} : fin (.exn c fs s) = .exn c fs s.hp := rfl
def kCh5 (b : Int → Bool) (s3 : S) : Option RV → Rs RV
  | some (.v (.int k)) => .ok (.v (.bl (b k))) s3
  | _ => .bad
def kCh4 (b : Int → Bool) : Rs Pn → Rs RV
  | .ok pc s3 => kCh5 b s3 (rd s3.env pc)
  | .exn c fs s => .exn c fs s
  | .bad => .bad
def kCh3 (f f' : Int → Int → Bool) (oc : Opd) (s2 : S) : Option RV → Option RV → Rs RV
  | some (.v (.int i)), some (.v (.int j)) => if f i j then kCh4 (f' j) (oc.run s2) else .ok (.v (.bl false)) s2
  | _, _ => .bad
def kCh2 (f f' : Int → Int → Bool) (oc : Opd) (pa : Pn) : Rs Pn → Rs RV
  | .ok pb s2 => kCh3 f f' oc s2 (rd s2.env pa) (rd s2.env pb)
  | .exn c fs s => .exn c fs s
  | .bad => .bad
def kCh1 (f f' : Int → Int → Bool) (ob oc : Opd) : Rs Pn → Rs RV
  | .ok pa s1 => kCh2 f f' oc pa (ob.run s1)
  | .exn c fs s => .exn c fs s
  | .bad => .bad
theorem ev_Ch {f f' : Int → Int → Bool} {oa ob oc : Opd} {s : S} : mChain f f' oa ob oc s = kCh1 f f' ob oc (oa.run s) := by
  unfold mChain kCh1
  cases oa.run s with
  | exn c fs s => rfl
  | bad => rfl
  | ok pa s1 =>
    show (ob.run s1).bind _ = kCh2 f f' oc pa (ob.run s1)
    cases ob.run s1 with
    | exn c fs s => rfl
    | bad => rfl
    | ok pb s2 =>
      show (match rd s2.env pa, rd s2.env pb with | some (.v (.int i)), some (.v (.int j)) => _ | _, _ => _) = kCh3 f f' oc s2 (rd s2.env pa) (rd s2.env pb)
      unfold kCh3
      split
      · rename_i i j _ _
        cases f i j with
        | false => rfl
        | true =>
          show (oc.run s2).bind _ = kCh4 (f' j) (oc.run s2)
          cases oc.run s2 with
          | exn c fs s => rfl
          | bad => rfl
          | ok pc s3 => rfl
      · rfl
theorem kCh1a {f f' : Int → Int → Bool} {ob oc : Opd} {p : Pn} {s : S} : kCh1 f f' ob oc (.ok p s) = kCh2 f f' oc p (ob.run s) := rfl
theorem kCh2a {f f' : Int → Int → Bool} {oc : Opd} {pa pb : Pn} {s : S} : kCh2 f f' oc pa (.ok pb s) = kCh3 f f' oc s (rd s.env pa) (rd s.env pb) := rfl
theorem kCh3a {f f' : Int → Int → Bool} {oc : Opd} {s : S} {i j : Int} : kCh3 f f' oc s (some (.v (.int i))) (some (.v (.int j))) = if f i j then kCh4 (f' j) (oc.run s) else .ok (.v (.bl false)) s := rfl
theorem kCh4a {b : Int → Bool} {p : Pn} {s : S} : kCh4 b (.ok p s) = kCh5 b s (rd s.env p) := rfl
theorem kCh5a {b : Int → Bool} {s : S} {k : Int} : kCh5 b s (some (.v (.int k))) = .ok (.v (.bl (b k))) s := rfl
theorem ev_RI2 {i j : Int} {s : S} (h1 : -1000000 ≤ i) (h2 : i ≤ 1000000) (h3 : -1000000 ≤ j) (h4 : j ≤ 1000000) : gRI2 [.v (.int i), .v (.int j)] s = .ok (fun _ => some (rngI i (j - i).toNat)) s := by
  unfold gRI2
  simp only [h1, h2, h3, h4, decide_true, Bool.and_self]
theorem ev_RI1 {j : Int} {s : S} (h3 : -1000000 ≤ j) (h4 : j ≤ 1000000) : gRI1 [.v (.int j)] s = .ok (fun _ => some (rngI 0 j.toNat)) s := by
  unfold gRI1
  simp only [h3, h4, decide_true, Bool.and_self]

/-! ### all -/
theorem bls_map {γ : Type} {l : List γ} {f : γ → Bool} : blsOf (l.map fun q => .bl (f q)) = some (l.map f) := by
  induction l with
  | nil => rfl
  | cons q l ih =>
    show (match blsOf (l.map fun q => .bl (f q)) with | some bs => some (f q :: bs) | none => none) = _
    rw [ih]
    rfl
theorem ev_All {γ : Type} {l : List γ} {f : γ → Bool} {s : S} : gAll [.l (l.map fun q => .bl (f q))] s = .ok (.v (.bl (l.all f))) s := by
  unfold gAll
  simp only [ev_sq2, bls_map, List.all_map, Function.comp_def, id]

/-! ### comprehensions -/
section
variable {γ : Type} {own : List Nat} {mi : M Src} {p : IV → S → Option S} {c : M Bool} {e : M RV} {s s1 : S} {src : Src}
theorem lcL_pure {v0 : γ → IV} {cf : γ → Bool} {g : γ → IV} {l : List γ} {vs : List IV} (hv : vs = l.map v0) (hs : src s = some vs)
    (hb : ∀ q ∈ l, ∃ s1, p (v0 q) s = some s1 ∧ clrS own s1 = s ∧ c s1 = .ok (cf q) s1 ∧ (cf q = true → e s1 = .ok (.v (g q)) s1)) :
    ∀ (m : Nat) (acc : List IV), m ≤ l.length → lcL src vs.length own p c e m acc s = .ok (.l (acc ++ ((l.drop (l.length - m)).filter cf).map g)) s := by
  intro m
  induction m with
  | zero =>
    intro acc _
    unfold lcL
    simp only [hs, decide_true, Nat.sub_zero, List.drop_length, List.filter_nil, List.map_nil, List.append_nil]
  | succ m ih =>
    intro acc hm
    have hl : vs.length = l.length := by rw [hv, List.length_map]
    have hk : l.length - (m + 1) < l.length := by omega
    obtain ⟨s1, h1, h2, h3, h4⟩ := hb _ (List.getElem_mem hk)
    have hx : vs[vs.length - (m + 1)]? = some (v0 l[l.length - (m + 1)]) := by
      rw [hl, hv, List.getElem?_map, List.getElem?_eq_getElem hk]
      rfl
    have hd : l.drop (l.length - (m + 1)) = l[l.length - (m + 1)] :: l.drop (l.length - m) := by
      rw [List.drop_eq_getElem_cons hk]
      congr 2
      omega
    unfold lcL
    simp only [hs, decide_true, hx, h1, h3]
    cases q : cf l[l.length - (m + 1)] with
    | true =>
      simp only [h4 q, ev_bv1, h2]
      rw [ih _ (by omega), hd, List.filter_cons_of_pos q, List.map_cons, List.append_assoc]
      rfl
    | false =>
      simp only [h2]
      rw [ih _ (by omega), hd, List.filter_cons_of_neg (by rw [q]; exact Bool.false_ne_true)]
theorem lc_pure (v0 : γ → IV) (cf : γ → Bool) (g : γ → IV) (l : List γ) (hi : mi s = .ok src s) (hs : src s = some (l.map v0)) (h0 : own0 own s = true) (hl : l.length ≤ 100000)
    (hb : ∀ q ∈ l, ∃ s1, p (v0 q) s = some s1 ∧ clrS own s1 = s ∧ c s1 = .ok (cf q) s1 ∧ (cf q = true → e s1 = .ok (.v (g q)) s1)) :
    mLc own mi p c e s = .ok (.l ((l.filter cf).map g)) s := by
  unfold mLc
  have hl' : (l.map v0).length ≤ 100000 := by rw [List.length_map]; exact hl
  simp only [hi, bd_ok, hs, h0, decide_eq_true hl', Bool.and_self]
  have := lcL_pure (e := e) (c := c) rfl hs hb l.length [] (Nat.le_refl _)
  rw [List.length_map] at this ⊢
  rw [this, Nat.sub_self]
  rfl
theorem lc_map (v0 : γ → IV) (g : γ → IV) (l : List γ) (hi : mi s = .ok src s) (hs : src s = some (l.map v0)) (h0 : own0 own s = true) (hl : l.length ≤ 100000)
    (hb : ∀ q ∈ l, ∃ s1, p (v0 q) s = some s1 ∧ clrS own s1 = s ∧ e s1 = .ok (.v (g q)) s1) :
    mLc own mi p mTrue e s = .ok (.l (l.map g)) s := by
  have := lc_pure (c := mTrue) (e := e) v0 (fun _ => true) g l hi hs h0 hl (fun q hq => by
    obtain ⟨s1, h1, h2, h3⟩ := hb q hq
    exact ⟨s1, h1, h2, rfl, fun _ => h3⟩)
  rw [this, List.filter_eq_self.mpr (fun _ _ => rfl)]
/-- a comprehension whose turns change the objects -/
theorem lcL_inv {vs : List IV} (I : Nat → List IV → S → Prop) (hs : ∀ k acc s, I k acc s → src s = some vs)
    (hb : ∀ k x acc s, vs[k]? = some x → I k acc s → ∃ s1, p x s = some s1 ∧ ((∃ s2, c s1 = .ok false s2 ∧ I (k + 1) acc (clrS own s2)) ∨ ∃ s2 s3 y, c s1 = .ok true s2 ∧ e s2 = .ok (.v y) s3 ∧ I (k + 1) (acc ++ [y]) (clrS own s3))) :
    ∀ (m k : Nat) (acc : List IV) (s : S), k + m = vs.length → I k acc s → ∃ acc' s', lcL src vs.length own p c e m acc s = .ok (.l acc') s' ∧ I vs.length acc' s' := by
  intro m
  induction m with
  | zero =>
    intro k acc s hk h
    have hk' : k = vs.length := by omega
    subst hk'
    refine ⟨acc, s, ?_, h⟩
    unfold lcL
    simp only [hs _ _ _ h, decide_true]
  | succ m ih =>
    intro k acc s hk h
    have hk' : vs.length - (m + 1) = k := by omega
    have hx : vs[k]? = some vs[k] := List.getElem?_eq_getElem (by omega)
    obtain ⟨s1, h1, h2⟩ := hb k _ acc s hx h
    unfold lcL
    simp only [hs _ _ _ h, decide_true, hk', hx, h1]
    rcases h2 with ⟨s2, h3, h4⟩ | ⟨s2, s3, y, h3, h4, h5⟩
    · simp only [h3]
      exact ih (k + 1) acc _ (by omega) h4
    · simp only [h3, h4, ev_bv1]
      exact ih (k + 1) _ _ (by omega) h5
theorem lc_inv {vs : List IV} (I : Nat → List IV → S → Prop) (hi : mi s = .ok src s1) (hI : I 0 [] s1) (h0 : own0 own s1 = true) (hl : vs.length ≤ 100000) (hs : ∀ k acc s, I k acc s → src s = some vs)
    (hb : ∀ k x acc s, vs[k]? = some x → I k acc s → ∃ s1, p x s = some s1 ∧ ((∃ s2, c s1 = .ok false s2 ∧ I (k + 1) acc (clrS own s2)) ∨ ∃ s2 s3 y, c s1 = .ok true s2 ∧ e s2 = .ok (.v y) s3 ∧ I (k + 1) (acc ++ [y]) (clrS own s3))) :
    ∃ acc' s', mLc own mi p c e s = .ok (.l acc') s' ∧ I vs.length acc' s' := by
  unfold mLc
  simp only [hi, bd_ok, hs _ _ _ hI, h0, decide_eq_true hl, Bool.and_self]
  exact lcL_inv I hs hb vs.length 0 [] s1 (by omega) hI
/-- a loop -/
theorem forL_inv {body : M Fl} {vs : List IV} (I : Nat → S → Prop) (hs : ∀ k s, I k s → src s = some vs)
    (hb : ∀ k x s, vs[k]? = some x → I k s → ∃ s1 s2, p x s = some s1 ∧ body s1 = .ok .nx s2 ∧ I (k + 1) s2) :
    ∀ (m k : Nat) (s : S), k + m = vs.length → I k s → ∃ s', forL src vs.length p body m s = .ok .nx s' ∧ I vs.length s' := by
  intro m
  induction m with
  | zero =>
    intro k s hk h
    have hk' : k = vs.length := by omega
    subst hk'
    refine ⟨s, ?_, h⟩
    unfold forL
    simp only [hs _ _ h, decide_true]
  | succ m ih =>
    intro k s hk h
    have hk' : vs.length - (m + 1) = k := by omega
    have hx : vs[k]? = some vs[k] := List.getElem?_eq_getElem (by omega)
    obtain ⟨s1, s2, h1, h2, h3⟩ := hb k _ s hx h
    unfold forL
    simp only [hs _ _ h, decide_true, hk', hx, h1, h2, bd_ok]
    exact ih (k + 1) _ (by omega) h3
theorem for_inv {body : M Fl} {vs : List IV} (I : Nat → S → Prop) (hi : mi s = .ok src s1) (hI : I 0 s1) (hs : ∀ k s, I k s → src s = some vs)
    (hb : ∀ k x s, vs[k]? = some x → I k s → ∃ s1 s2, p x s = some s1 ∧ body s1 = .ok .nx s2 ∧ I (k + 1) s2) :
    ∃ s', mFor mi p body s = .ok .nx s' ∧ I vs.length s' := by
  unfold mFor
  simp only [hi, bd_ok, hs _ _ hI]
  exact forL_inv I hs hb vs.length 0 s1 (by omega) hI
/-- a dict by a comprehension -/
theorem dcL_pure {ek ev : M RV} {v0 : γ → IV} {kf : γ → Str} {vf : γ → IV} {l : List γ} {vs : List IV} (hv : vs = l.map v0) (hs : src s = some vs)
    (hb : ∀ q ∈ l, ∃ s1, p (v0 q) s = some s1 ∧ clrS own s1 = s ∧ ek s1 = .ok (.v (.str (kf q))) s1 ∧ ev s1 = .ok (.v (vf q)) s1) :
    ∀ (m : Nat) (acc : List (Key × IV)), m ≤ l.length → dcL src vs.length own p mTrue ek ev m acc s = .ok (.v (.ref s.hp.length)) ⟨s.env, s.hp ++ [.dct ((l.drop (l.length - m)).foldl (fun acc q => putD acc (.inr (kf q)) (vf q)) acc)]⟩ := by
  intro m
  induction m with
  | zero =>
    intro acc _
    unfold dcL
    simp only [hs, decide_true, Nat.sub_zero, List.drop_length, List.foldl_nil]
  | succ m ih =>
    intro acc hm
    have hl : vs.length = l.length := by rw [hv, List.length_map]
    have hk : l.length - (m + 1) < l.length := by omega
    obtain ⟨s1, h1, h2, h3, h4⟩ := hb _ (List.getElem_mem hk)
    have hx : vs[vs.length - (m + 1)]? = some (v0 l[l.length - (m + 1)]) := by
      rw [hl, hv, List.getElem?_map, List.getElem?_eq_getElem hk]
      rfl
    have hd : l.drop (l.length - (m + 1)) = l[l.length - (m + 1)] :: l.drop (l.length - m) := by
      rw [List.drop_eq_getElem_cons hk]
      congr 2
      omega
    unfold dcL
    simp only [hs, decide_true, hx, h1, ev_tr, h3, keyR, h4, h2]
    rw [ih _ (by omega), hd, List.foldl_cons]
theorem dc_pure {ek ev : M RV} (v0 : γ → IV) (kf : γ → Str) (vf : γ → IV) (l : List γ) (hi : mi s = .ok src s) (hs : src s = some (l.map v0)) (h0 : own0 own s = true) (hl : l.length ≤ 100000)
    (hb : ∀ q ∈ l, ∃ s1, p (v0 q) s = some s1 ∧ clrS own s1 = s ∧ ek s1 = .ok (.v (.str (kf q))) s1 ∧ ev s1 = .ok (.v (vf q)) s1) :
    mDc own mi p mTrue ek ev s = .ok (.v (.ref s.hp.length)) ⟨s.env, s.hp ++ [.dct (l.foldl (fun acc q => putD acc (.inr (kf q)) (vf q)) [])]⟩ := by
  unfold mDc
  have hl' : (l.map v0).length ≤ 100000 := by rw [List.length_map]; exact hl
  simp only [hi, bd_ok, hs, h0, decide_eq_true hl', Bool.and_self]
  have := dcL_pure (ek := ek) (ev := ev) rfl hs hb l.length [] (Nat.le_refl _)
  rw [List.length_map] at this ⊢
  rw [this, Nat.sub_self]
  rfl
end
end Py

set_option Elab.async false
set_option linter.all false
set_option maxRecDepth 100000
set_option maxHeartbeats 4000000
/-! Q0: names for the comprehensions and loops of the plain functions (printed by named.py). -/
namespace Py
open PySem PySem.Spec PyProof.Rows L2
theorem u_is_integer : m_is_integer = (mRet (mB (mAnd (mTest (mN [(.nm 0)] (gIsT [] .int))) (mNot (mTest (mN [(.nm 0)] (gIsT [] .bool))))))) := rfl
theorem u_is_between : m_is_between = (mRet (mB (mAnd (mTest (mCall (f_is_integer) [(.nm 0)])) (mTest (mChain (fun i j => decide (i ≤ j)) (fun i j => decide (i ≤ j)) (.nm 1) (.nm 0) (.nm 2)))))) := rfl
theorem u_is_number : m_is_number = (mRet (mB (mAnd (mTest (mCall (f_is_integer) [(.nm 0)])) (mTest (mN [(.nm 0), (.ex (mC (.int 0)))] (gI2 fun i j => .bl (decide (j ≤ i)))))))) := rfl
def c_is_name_1 : M RV := (mLc [1] (itTx (.nm 0)) (setN 1) mTrue (mN [(.nm 1), (.ex (mC (.str "abcdefghijklmnopqrstuvwxyz")))] (gInS false)))
theorem u_is_name : m_is_name = (mRet (mB (mAnd (mTest (mN [(.nm 0)] (gIsT [] .str))) (mAnd (mTest (mChain (fun i j => decide (i ≤ j)) (fun i j => decide (i ≤ j)) (.ex (mC (.int 1))) (.ex (mN [(.nm 0)] gLen)) (.ex (mC (.int 12))))) (mTest (mN [(.ex c_is_name_1)] gAll)))))) := rfl
def c_is_ascending_1 : M RV := (mLc [1] (mN [(.ex (mC (.int 1))), (.ex (mN [(.nm 0)] gLen))] gRI2) (setN 1) mTrue (mN [(.ex (mN [(.nm 0), (.ex (mN [(.nm 1), (.ex (mC (.int 1)))] (gI2 fun i j => .int (i - j))))] gAt)), (.ex (mN [(.nm 0), (.nm 1)] gAt))] gLt))
theorem u_is_ascending : m_is_ascending = (mRet (mN [(.ex c_is_ascending_1)] gAll)) := rfl
def c_is_names_1 : M RV := (mLc [2] (itS (.nm 0)) (setN 2) mTrue (mCall (f_is_name) [(.nm 2)]))
theorem u_is_names : m_is_names = (mSeq (mIfS (mOr (mNot (mTest (mN [(.nm 0)] (gIsT [] .tuple)))) (mOr (mTest (mN [(.ex (mN [(.nm 0)] gLen)), (.nm 1)] (gI2 fun i j => .bl (decide (j < i))))) (mNot (mTest (mN [(.ex c_is_names_1)] gAll))))) (mRet (mC (.bl false))) mNx)
  (mRet (mCall (f_is_ascending) [(.nm 0)]))) := rfl
def c_is_numbers_1 : M RV := (mLc [1] (itS (.nm 0)) (setN 1) mTrue (mCall (f_is_number) [(.nm 1)]))
theorem u_is_numbers : m_is_numbers = (mRet (mB (mAnd (mTest (mN [(.nm 0)] (gIsT [] .tuple))) (mAnd (mTest (mN [(.ex c_is_numbers_1)] gAll)) (mTest (mCall (f_is_ascending) [(.nm 0)])))))) := rfl
theorem u_Week_init : m_Week_init = (mSeq (mIfS (mNot (mTest (mCall (f_is_between) [(.nm 1), (.ex (mC (.int 1))), (.ex (mC (.int 7)))]))) mBad mNx)
  (mSeq (mIfS (mNot (mTest (mCall (f_is_between) [(.nm 2), (.ex (mC (.int 1))), (.ex (mC (.int 12)))]))) mBad mNx)
  (mSeq (mN [(.nm 1), (.nm 0)] (gSetF ["Week"] "days"))
  (mN [(.nm 2), (.nm 0)] (gSetF ["Week"] "periods"))))) := rfl
theorem u_Week_has : m_Week_has = (mRet (mChain (fun i j => decide (i ≤ j)) (fun i j => decide (i < j)) (.ex (mC (.int 0))) (.nm 1) (.ex (mN [(.ex (mN [(.nm 0)] (gFl ["Week"] "days"))), (.ex (mN [(.nm 0)] (gFl ["Week"] "periods")))] (gI2c cMul fun i j => .int (i * j)))))) := rfl
def c_is_slots_1 : M RV := (mLc [2] (itS (.nm 1)) (setN 2) mTrue (mMeth "Week" "has" f_Week_has (.nm 0) [(.nm 2)]))
theorem u_is_slots : m_is_slots = (mRet (mB (mAnd (mTest (mCall (f_is_numbers) [(.nm 1)])) (mTest (mN [(.ex c_is_slots_1)] gAll))))) := rfl
theorem u_is_laid : m_is_laid = (mSeq (mIfS (mOr (mNot (mTest (mN [(.nm 0)] (gIsT [] .tuple)))) (mTest (mN [(.ex (mN [(.nm 0)] gLen)), (.ex (mC (.int 3)))] (gEq true)))) (mRet (mC (.bl false))) mNx)
  (mRet (mB (mAnd (mTest (mCall (f_is_name) [(.ex (mN [(.nm 0), (.ex (mC (.int 0)))] gAt))])) (mAnd (mTest (mCall (f_is_number) [(.ex (mN [(.nm 0), (.ex (mC (.int 1)))] gAt))])) (mTest (mCall (f_is_name) [(.ex (mN [(.nm 0), (.ex (mC (.int 2)))] gAt))]))))))) := rfl
def c_is_timetable_1 : M RV := (mLc [1] (itS (.nm 0)) (setN 1) mTrue (mCall (f_is_laid) [(.nm 1)]))
def c_is_timetable_2 : M RV := (mLc [1] (itS (.nm 0)) (setN 1) mTrue (mN [(.nm 1), (.ex (mC (.int 0)))] gAt))
theorem u_is_timetable : m_is_timetable = (mSeq (mIfS (mOr (mNot (mTest (mN [(.nm 0)] (gIsT [] .tuple)))) (mNot (mTest (mN [(.ex c_is_timetable_1)] gAll)))) (mRet (mC (.bl false))) mNx)
  (mRet (mCall (f_is_ascending) [(.ex c_is_timetable_2)]))) := rfl
def c_check_whole_1 : M RV := (mLc [2, 3, 4] (itS (.nm 1)) (setT [2, 3, 4]) mTrue (mRd 2))
def c_check_whole_2 : M RV := (mLc [5] (itS (.ex (mN [(.nm 0)] (gFl ["Book"] "lessons")))) (setN 5) mTrue (mN [(.nm 5)] (gFl ["Room", "Person", "Lesson"] "name")))
theorem u_check_whole : m_check_whole = (mSeq (mIfS (mNot (mTest (mCall (f_is_timetable) [(.nm 1)]))) (mRaise "NoTimetable") mNx)
  (mIfS (mTest (mN [(.ex c_check_whole_1), (.ex c_check_whole_2)] (gEq true))) (mRaise "NoTimetable") mNx)) := rfl
theorem u_gone_to : m_gone_to = (mSeq (mIfS (mOr (mTest (mN [(.nm 1), (.nm 2)] (gEq false))) (mTest (mN [(.nm 2), (.nm 0)] (gEq false)))) (mRet (mRd 1)) mNx)
  (mRet (mIf (mTest (mN [(.nm 1), (.nm 0)] (gEq false))) (mRd 2) (mC .non)))) := rfl
def d_merged_1 : M Fl := (mDrop (mCall (f_check_whole) [(.nm 0), (.nm 4)]))
def c_merged_1 : M Fl := (mFor (itS (.ex (mN [(.nm 1), (.nm 2), (.nm 3)] gTup))) (setN 4) d_merged_1)
def c_merged_2 : M RV := (mLc [7, 8, 9] (itZ3 (.nm 1) (.nm 2) (.nm 3)) (setT [7, 8, 9]) mTrue (mCall (f_gone_to) [(.nm 7), (.nm 8), (.nm 9)]))
def c_merged_3 : M RV := (mLc [10, 11] (itZ2 (.nm 1) (.nm 5)) (setT [10, 11]) (mTest (mN [(.nm 11)] (gIsN false))) (mN [(.nm 10), (.ex (mC (.int 0)))] gAt))
theorem u_merged : m_merged = (mSeq c_merged_1
  (mSeq (mSet 5 c_merged_2)
  (mSeq (mSet 6 (mN [(.ex c_merged_3)] gTuple))
  (mRet (mIf (mTest (mN [(.ex (mN [(.nm 6)] gLen)), (.ex (mC (.int 0)))] (gI2 fun i j => .bl (decide (j < i))))) (mN [(.ex (mC (.str "clash"))), (.nm 6)] gTup) (mN [(.ex (mC (.str "merged"))), (.ex (mN [(.nm 5)] gTuple))] gTup)))))) := rfl
def c_unlike_in_1 : M RV := (mLc [3, 4] (itZ2 (.nm 1) (.nm 2)) (setT [3, 4]) (mTest (mN [(.nm 3), (.nm 4)] (gEq true))) (mN [(.nm 3), (.ex (mC (.int 0)))] gAt))
theorem u_unlike_in : m_unlike_in = (mSeq (mDrop (mCall (f_check_whole) [(.nm 0), (.nm 1)]))
  (mSeq (mDrop (mCall (f_check_whole) [(.nm 0), (.nm 2)]))
  (mRet (mN [(.ex c_unlike_in_1)] gTuple)))) := rfl
theorem u_Room_init : m_Room_init = (mSeq (mIfS (mNot (mTest (mCall (f_is_name) [(.nm 1)]))) mBad mNx)
  (mSeq (mIfS (mNot (mTest (mCall (f_is_between) [(.nm 2), (.ex (mC (.int 0))), (.ex (mC (.int 999)))]))) mBad mNx)
  (mSeq (mIfS (mNot (mTest (mCall (f_is_names) [(.nm 3), (.ex (mC (.int 6)))]))) mBad mNx)
  (mSeq (mIfS (mNot (mTest (mCall (f_is_numbers) [(.nm 4)]))) mBad mNx)
  (mSeq (mN [(.nm 1), (.nm 0)] (gSetF ["Room", "Person", "Lesson"] "name"))
  (mSeq (mN [(.nm 2), (.nm 0)] (gSetF ["Room", "Lesson"] "seats"))
  (mSeq (mN [(.nm 3), (.nm 0)] (gSetF ["Room", "Lesson"] "kinds"))
  (mN [(.nm 4), (.nm 0)] (gSetF ["Room"] "closed"))))))))) := rfl
theorem u_Person_init : m_Person_init = (mSeq (mIfS (mNot (mTest (mCall (f_is_name) [(.nm 1)]))) mBad mNx)
  (mSeq (mIfS (mNot (mTest (mCall (f_is_numbers) [(.nm 2)]))) mBad mNx)
  (mSeq (mIfS (mNot (mTest (mCall (f_is_between) [(.nm 3), (.ex (mC (.int 0))), (.ex (mC (.int 12)))]))) mBad mNx)
  (mSeq (mN [(.nm 1), (.nm 0)] (gSetF ["Room", "Person", "Lesson"] "name"))
  (mSeq (mN [(.nm 2), (.nm 0)] (gSetF ["Person"] "absent"))
  (mN [(.nm 3), (.nm 0)] (gSetF ["Person"] "most"))))))) := rfl
theorem u_Lesson_init : m_Lesson_init = (mSeq (mIfS (mNot (mTest (mCall (f_is_name) [(.nm 1)]))) mBad mNx)
  (mSeq (mIfS (mNot (mTest (mCall (f_is_between) [(.nm 2), (.ex (mC (.int 1))), (.ex (mC (.int 4)))]))) mBad mNx)
  (mSeq (mIfS (mNot (mTest (mCall (f_is_names) [(.nm 3), (.ex (mC (.int 8)))]))) mBad mNx)
  (mSeq (mIfS (mNot (mTest (mCall (f_is_between) [(.nm 4), (.ex (mC (.int 0))), (.ex (mC (.int 999)))]))) mBad mNx)
  (mSeq (mIfS (mNot (mTest (mCall (f_is_names) [(.nm 5), (.ex (mC (.int 6)))]))) mBad mNx)
  (mSeq (mIfS (mNot (mTest (mCall (f_is_numbers) [(.nm 6)]))) mBad mNx)
  (mSeq (mN [(.nm 1), (.nm 0)] (gSetF ["Room", "Person", "Lesson"] "name"))
  (mSeq (mN [(.nm 2), (.nm 0)] (gSetF ["Lesson"] "length"))
  (mSeq (mN [(.nm 3), (.nm 0)] (gSetF ["Lesson", "Book"] "people"))
  (mSeq (mN [(.nm 4), (.nm 0)] (gSetF ["Room", "Lesson"] "seats"))
  (mSeq (mN [(.nm 5), (.nm 0)] (gSetF ["Room", "Lesson"] "kinds"))
  (mN [(.nm 6), (.nm 0)] (gSetF ["Lesson"] "starts"))))))))))))) := rfl
theorem u_is_rule : m_is_rule = (mSeq (mIfS (mOr (mNot (mTest (mN [(.nm 0)] (gIsT [] .tuple)))) (mOr (mTest (mN [(.ex (mN [(.nm 0)] gLen)), (.ex (mC (.int 3)))] gLt)) (mNot (mTest (mN [(.ex (mN [(.nm 0), (.ex (mC (.int 0)))] gAt))] (gIsT [] .str)))))) (mRet (mC (.bl false))) mNx)
  (mSeq (mIfS (mTest (mN [(.ex (mN [(.nm 0), (.ex (mC (.int 0)))] gAt)), (.ex (mC (.str "most")))] (gEq false))) (mRet (mB (mAnd (mTest (mN [(.ex (mN [(.nm 0)] gLen)), (.ex (mC (.int 3)))] (gEq false))) (mAnd (mTest (mCall (f_is_names) [(.ex (mN [(.nm 0), (.ex (mC (.int 1)))] gAt)), (.ex (mC (.int 12)))])) (mAnd (mTest (mN [(.ex (mN [(.ex (mN [(.nm 0), (.ex (mC (.int 1)))] gAt))] gLen)), (.ex (mC (.int 1)))] (gI2 fun i j => .bl (decide (j < i))))) (mTest (mCall (f_is_between) [(.ex (mN [(.nm 0), (.ex (mC (.int 2)))] gAt)), (.ex (mC (.int 1))), (.ex (mC (.int 6)))]))))))) mNx)
  (mSeq (mIfS (mOr (mNot (mTest (mCall (f_is_name) [(.ex (mN [(.nm 0), (.ex (mC (.int 1)))] gAt))]))) (mOr (mNot (mTest (mCall (f_is_name) [(.ex (mN [(.nm 0), (.ex (mC (.int 2)))] gAt))]))) (mTest (mN [(.ex (mN [(.nm 0), (.ex (mC (.int 1)))] gAt)), (.ex (mN [(.nm 0), (.ex (mC (.int 2)))] gAt))] (gEq false))))) (mRet (mC (.bl false))) mNx)
  (mSeq (mIfS (mTest (mN [(.ex (mN [(.nm 0), (.ex (mC (.int 0)))] gAt)), (.ex (mC (.str "gap")))] (gEq false))) (mRet (mB (mAnd (mTest (mN [(.ex (mN [(.nm 0)] gLen)), (.ex (mC (.int 4)))] (gEq false))) (mTest (mCall (f_is_between) [(.ex (mN [(.nm 0), (.ex (mC (.int 3)))] gAt)), (.ex (mC (.int 1))), (.ex (mC (.int 6)))]))))) mNx)
  (mRet (mB (mAnd (mTest (mN [(.ex (mN [(.nm 0), (.ex (mC (.int 0)))] gAt)), (.ex (mC (.tup [.str "apart", .str "same", .str "ahead", .str "together", .str "next"])))] (gIn false))) (mTest (mN [(.ex (mN [(.nm 0)] gLen)), (.ex (mC (.int 3)))] (gEq false)))))))))) := rfl
theorem u_names_of : m_names_of = (mRet (mIf (mTest (mN [(.ex (mN [(.nm 0), (.ex (mC (.int 0)))] gAt)), (.ex (mC (.str "most")))] (gEq false))) (mN [(.nm 0), (.ex (mC (.int 1)))] gAt) (mSlB (.nm 0) (.ex (mC (.int 1))) (.ex (mC (.int 3)))))) := rfl
theorem u_is_behind : m_is_behind = (mRet (mB (mOr (mTest (mN [(.nm 1), (.ex (mC (.int 0)))] (gEq false))) (mTest (mN [(.ex (mN [(.ex (mN [(.nm 0), (.ex (mN [(.nm 1), (.ex (mC (.int 1)))] (gI2 fun i j => .int (i - j))))] gAt))] (gFl ["Room", "Person", "Lesson"] "name"))), (.ex (mN [(.ex (mN [(.nm 0), (.nm 1)] gAt))] (gFl ["Room", "Person", "Lesson"] "name")))] gLt))))) := rfl
def c_Book_put_lessons_1 : M RV := (mLc [4] (itS (.ex (mN [(.nm 3)] (gFl ["Lesson", "Book"] "people")))) (setN 4) mTrue (mN [(.nm 4), (.ex (mN [(.nm 0)] (gFl ["Book"] "person_named")))] (gInDk false)))
def d_Book_put_lessons_2 : M Fl := (mSeq (mIfS (mOr (mNot (mTest (mN [(.nm 3)] (gIsO [("Lesson", true)])))) (mNot (mTest (mCall (f_is_slots) [(.ex (mN [(.nm 0)] (gFl ["Book"] "week"))), (.ex (mN [(.nm 3)] (gFl ["Lesson"] "starts")))])))) mBad mNx)
  (mIfS (mOr (mNot (mTest (mN [(.ex c_Book_put_lessons_1)] gAll))) (mNot (mTest (mCall (f_is_behind) [(.nm 1), (.nm 2)])))) mBad mNx))
def c_Book_put_lessons_2 : M Fl := (mFor (itE (.ex (mRd 1))) (setT [2, 3]) d_Book_put_lessons_2)
def c_Book_put_lessons_3 : M RV := (mDc [3] (itS (.nm 1)) (setN 3) mTrue (mN [(.nm 3)] (gFl ["Room", "Person", "Lesson"] "name")) (mRd 3))
theorem u_Book_put_lessons : m_Book_put_lessons = (mSeq (mIfS (mOr (mNot (mTest (mN [(.nm 1)] (gIsT [] .tuple)))) (mTest (mN [(.ex (mN [(.nm 1)] gLen)), (.ex (mC (.int 24)))] (gI2 fun i j => .bl (decide (j < i)))))) mBad mNx)
  (mSeq c_Book_put_lessons_2
  (mSeq (mN [(.nm 1), (.nm 0)] (gSetF ["Book"] "lessons"))
  (mN [(.ex (mFg [3] c_Book_put_lessons_3)), (.nm 0)] (gSetF ["Book"] "lesson_named"))))) := rfl
def c_Book_put_rules_1 : M RV := (mLc [4] (itS (.ex (mCall (f_names_of) [(.nm 3)]))) (setN 4) mTrue (mN [(.nm 4), (.ex (mN [(.nm 0)] (gFl ["Book"] "lesson_named")))] (gInDk false)))
def d_Book_put_rules_2 : M Fl := (mSeq (mIfS (mOr (mNot (mTest (mCall (f_is_rule) [(.nm 3)]))) (mNot (mTest (mN [(.ex c_Book_put_rules_1)] gAll)))) mBad mNx)
  (mIfS (mTest (mN [(.nm 3), (.ex (mN [(.nm 1), (.nm 2)] gSlH))] (gIn false))) mBad mNx))
def c_Book_put_rules_2 : M Fl := (mFor (itE (.ex (mRd 1))) (setT [2, 3]) d_Book_put_rules_2)
theorem u_Book_put_rules : m_Book_put_rules = (mSeq (mIfS (mOr (mNot (mTest (mN [(.nm 1)] (gIsT [] .tuple)))) (mTest (mN [(.ex (mN [(.nm 1)] gLen)), (.ex (mC (.int 40)))] (gI2 fun i j => .bl (decide (j < i)))))) mBad mNx)
  (mSeq c_Book_put_rules_2
  (mN [(.nm 1), (.nm 0)] (gSetF ["Book"] "rules")))) := rfl
def d_Book_init_1 : M Fl := (mIfS (mOr (mNot (mTest (mN [(.nm 7)] (gIsO [("Room", true)])))) (mOr (mNot (mTest (mCall (f_is_slots) [(.nm 1), (.ex (mN [(.nm 7)] (gFl ["Room"] "closed")))]))) (mNot (mTest (mCall (f_is_behind) [(.nm 2), (.nm 6)]))))) mBad mNx)
def c_Book_init_1 : M Fl := (mFor (itE (.ex (mRd 2))) (setT [6, 7]) d_Book_init_1)
def d_Book_init_2 : M Fl := (mIfS (mOr (mNot (mTest (mN [(.nm 8)] (gIsO [("Person", true)])))) (mOr (mNot (mTest (mCall (f_is_slots) [(.nm 1), (.ex (mN [(.nm 8)] (gFl ["Person"] "absent")))]))) (mNot (mTest (mCall (f_is_behind) [(.nm 3), (.nm 6)]))))) mBad mNx)
def c_Book_init_2 : M Fl := (mFor (itE (.ex (mRd 3))) (setT [6, 8]) d_Book_init_2)
def c_Book_init_3 : M RV := (mDc [7] (itS (.nm 2)) (setN 7) mTrue (mN [(.nm 7)] (gFl ["Room", "Person", "Lesson"] "name")) (mRd 7))
def c_Book_init_4 : M RV := (mDc [8] (itS (.nm 3)) (setN 8) mTrue (mN [(.nm 8)] (gFl ["Room", "Person", "Lesson"] "name")) (mRd 8))
theorem u_Book_init : m_Book_init = (mSeq (mIfS (mNot (mTest (mN [(.nm 1)] (gIsO [("Week", true)])))) mBad mNx)
  (mSeq (mIfS (mOr (mNot (mTest (mN [(.nm 2)] (gIsT [] .tuple)))) (mTest (mN [(.ex (mN [(.nm 2)] gLen)), (.ex (mC (.int 12)))] (gI2 fun i j => .bl (decide (j < i)))))) mBad mNx)
  (mSeq c_Book_init_1
  (mSeq (mIfS (mOr (mNot (mTest (mN [(.nm 3)] (gIsT [] .tuple)))) (mTest (mN [(.ex (mN [(.nm 3)] gLen)), (.ex (mC (.int 30)))] (gI2 fun i j => .bl (decide (j < i)))))) mBad mNx)
  (mSeq c_Book_init_2
  (mSeq (mN [(.nm 1), (.nm 0)] (gSetF ["Book"] "week"))
  (mSeq (mN [(.nm 2), (.nm 0)] (gSetF ["Book"] "rooms"))
  (mSeq (mN [(.nm 3), (.nm 0)] (gSetF ["Lesson", "Book"] "people"))
  (mSeq (mN [(.ex (mFg [7] c_Book_init_3)), (.nm 0)] (gSetF ["Book"] "room_named"))
  (mSeq (mN [(.ex (mFg [8] c_Book_init_4)), (.nm 0)] (gSetF ["Book"] "person_named"))
  (mSeq (mDrop (mMeth "Book" "put_lessons" f_Book_put_lessons (.nm 0) [(.nm 4)]))
  (mDrop (mMeth "Book" "put_rules" f_Book_put_rules (.nm 0) [(.nm 5)]))))))))))))) := rfl
def c_law_hand_1 : M RV := (mLc [2] (itS (.ex (mN [(.nm 0), (.ex (mC (.int 63)))] gSlH))) (setN 2) mTrue (mN [(.ex (mN [(.nm 2)] gInt))] gAbs))
theorem u_law_hand : m_law_hand = (mSeq (mSet 1 c_law_hand_1)
  (mRet (mN [(.ex (mLk 1)), (.ex (mC (.int 0))), (.ex (mC (.int 0))), (.ex (mN [(.ex (mC (.int 107))), (.ex (mN [(.ex (mC (.int 19))), (.ex (mN [(.nm 1)] gLen))] (gI2c cMul fun i j => .int (i * j))))] (gI2 fun i j => .int (i + j)))), (.ex (mC (.int 0)))] gLst))) := rfl
theorem u_law_draw : m_law_draw = (mSeq (mIfS (mAnd (mTest (mN [(.ex (mN [(.nm 0), (.ex (mC (.int 2)))] gAt)), (.ex (mC (.int 0)))] (gEq false))) (mTest (mN [(.ex (mN [(.nm 0), (.ex (mC (.int 1)))] gAt)), (.ex (mN [(.ex (mN [(.nm 0), (.ex (mC (.int 0)))] gAt))] gLen))] gLt))) (mSeq (mSet 2 (mN [(.ex (mN [(.nm 0), (.ex (mC (.int 0)))] gAt)), (.ex (mN [(.nm 0), (.ex (mC (.int 1)))] gAt))] gAt))
  (mSeq (mN [(.ex (mN [(.ex (mN [(.nm 0), (.ex (mC (.int 1)))] gAt)), (.ex (mC (.int 1)))] (gI2 fun i j => .int (i + j)))), (.nm 0), (.ex (mC (.int 1)))] gSetI)
  (mSeq (mN [(.ex (mN [(.ex (mN [(.ex (mN [(.ex (mN [(.ex (mN [(.ex (mN [(.nm 0), (.ex (mC (.int 3)))] gAt)), (.ex (mC (.int 69621)))] (gI2c cMul fun i j => .int (i * j)))), (.ex (mN [(.nm 2), (.ex (mC (.int 48271)))] (gI2c cMul fun i j => .int (i * j))))] (gI2 fun i j => .int (i + j)))), (.ex (mC (.int 17)))] (gI2 fun i j => .int (i + j))))] gInt)), (.ex (mC (.int 2147483629)))] (gI2c cMod fun i j => .int (i % j)))), (.nm 0), (.ex (mC (.int 3)))] gSetI)
  (mIfS (mTest (mN [(.nm 2), (.ex (mN [(.ex (mC (.int 10))), (.ex (mC (.int 18)))] (gI2c cPow fun i j => .int (i ^ j.toNat))))] (gI2 fun i j => .bl (decide (j ≤ i))))) (mN [(.nm 2), (.nm 0), (.ex (mC (.int 2)))] gSetI) mNx)))) mNx)
  (mSeq (mIfS (mTest (mN [(.ex (mN [(.nm 0), (.ex (mC (.int 2)))] gAt)), (.ex (mC (.int 0)))] (gI2 fun i j => .bl (decide (j < i))))) (mSeq (mSet 3 (mN [(.ex (mN [(.ex (mN [(.nm 0), (.ex (mC (.int 2)))] gAt))] gInt)), (.nm 1)] (gI2c cMod fun i j => .int (i % j))))
  (mSeq (mN [(.ex (mN [(.ex (mN [(.nm 0), (.ex (mC (.int 2)))] gAt)), (.nm 1)] (gI2c cDiv fun i j => .int (i / j)))), (.nm 0), (.ex (mC (.int 2)))] gSetI)
  (mRet (mRd 3)))) mNx)
  (mSeq (mN [(.ex (mN [(.ex (mN [(.nm 0), (.ex (mC (.int 4)))] gAt)), (.ex (mC (.int 1)))] (gI2 fun i j => .int (i + j)))), (.nm 0), (.ex (mC (.int 4)))] gSetI)
  (mSeq (mSet 4 (mN [(.ex (mN [(.ex (mN [(.ex (mN [(.ex (mN [(.ex (mN [(.nm 0), (.ex (mC (.int 3)))] gAt)), (.ex (mN [(.ex (mC (.int 7919))), (.ex (mN [(.nm 0), (.ex (mC (.int 4)))] gAt))] (gI2c cMul fun i j => .int (i * j))))] (gI2 fun i j => .int (i + j))))] gInt)), (.ex (mC (.int 40692)))] (gI2c cMul fun i j => .int (i * j))))] gInt)), (.ex (mC (.int 2147483647)))] (gI2c cMod fun i j => .int (i % j))))
  (mSeq (mSet 4 (mN [(.ex (mN [(.ex (mN [(.nm 4), (.ex (mN [(.ex (mN [(.nm 4), (.ex (mC (.int 1009)))] (gI2c cDiv fun i j => .int (i / j)))), (.ex (mC (.int 69621)))] (gI2 fun i j => .int (i + j))))] (gI2c cMul fun i j => .int (i * j))))] gInt)), (.ex (mC (.int 2147483647)))] (gI2c cMod fun i j => .int (i % j))))
  (mSeq (mSet 4 (mN [(.ex (mN [(.ex (mN [(.nm 4), (.ex (mN [(.ex (mN [(.nm 4), (.ex (mC (.int 2003)))] (gI2c cDiv fun i j => .int (i / j)))), (.ex (mC (.int 40014)))] (gI2 fun i j => .int (i + j))))] (gI2c cMul fun i j => .int (i * j))))] gInt)), (.ex (mC (.int 2147483563)))] (gI2c cMod fun i j => .int (i % j))))
  (mRet (mN [(.ex (mN [(.ex (mN [(.nm 4), (.ex (mC (.int 16)))] (gI2c cDiv fun i j => .int (i / j))))] gInt)), (.nm 1)] (gI2c cMod fun i j => .int (i % j)))))))))) := rfl
theorem u_law_any : m_law_any = (mRet (mN [(.nm 1), (.ex (mCall (f_law_draw) [(.nm 0), (.ex (mN [(.nm 1)] gLen))]))] gAt)) := rfl
def c_law_is_1 (fr : Fn) : M RV := (mLc [2, 3] (itZ2 (.nm 0) (.nm 1)) (setT [2, 3]) mTrue (mCall fr [(.nm 2), (.nm 3)]))
theorem u_law_is (fr : Fn) : m_law_is fr = (mSeq (mIfS (mTest (mN [(.nm 1)] (gIsT2 [] .tuple .list))) (mSeq (mIfS (mOr (mTest (mN [(.ex (mN [(.nm 0)] (gIsT [] .tuple))), (.ex (mN [(.nm 1)] (gIsT [] .tuple)))] (gEq true))) (mTest (mN [(.ex (mN [(.nm 0)] (gIsT [] .list))), (.ex (mN [(.nm 1)] (gIsT [] .list)))] (gEq true)))) (mRet (mC (.bl false))) mNx)
  (mRet (mB (mAnd (mTest (mN [(.ex (mN [(.nm 0)] gLen)), (.ex (mN [(.nm 1)] gLen))] (gEq false))) (mTest (mN [(.ex (c_law_is_1 fr))] gAll)))))) mNx)
  (mSeq (mIfS (mOr (mTest (mN [(.ex (mN [(.nm 0)] (gIsT [] .bool))), (.ex (mN [(.nm 1)] (gIsT [] .bool)))] (gEq true))) (mTest (mN [(.ex (mN [(.nm 0)] (gIsT [] .int))), (.ex (mN [(.nm 1)] (gIsT [] .int)))] (gEq true)))) (mRet (mC (.bl false))) mNx)
  (mRet (mN [(.nm 0), (.nm 1)] (gEq false))))) := rfl
def c_law_some_1 : M RV := (mLc [3] (itS (.nm 1)) (setN 3) (mTest (mN [(.ex (mCall (f_law_draw) [(.nm 0), (.nm 2)])), (.ex (mC (.int 0)))] (gEq false))) (mRd 3))
theorem u_law_some : m_law_some = (mRet (mN [(.ex c_law_some_1)] gTuple)) := rfl
theorem u_law_rule : m_law_rule = (mSeq (mSet 2 (mCall (f_law_draw) [(.nm 0), (.ex (mN [(.nm 1)] gLen))]))
  (mSeq (mSet 3 (mN [(.ex (mN [(.ex (mN [(.ex (mN [(.nm 2), (.ex (mC (.int 1)))] (gI2 fun i j => .int (i + j)))), (.ex (mCall (f_law_draw) [(.nm 0), (.ex (mN [(.ex (mN [(.nm 1)] gLen)), (.ex (mC (.int 1)))] (gI2 fun i j => .int (i - j))))]))] (gI2 fun i j => .int (i + j))))] gInt)), (.ex (mN [(.nm 1)] gLen))] (gI2c cMod fun i j => .int (i % j))))
  (mSeq (mSet 4 (mCall (f_law_any) [(.nm 0), (.ex (mN [(.ex (mC (.str "apart"))), (.ex (mC (.str "same"))), (.ex (mC (.str "ahead"))), (.ex (mC (.str "together"))), (.ex (mC (.str "next"))), (.ex (mC (.str "gap"))), (.ex (mC (.str "most")))] gLst))]))
  (mSeq (mIfS (mTest (mN [(.nm 4), (.ex (mC (.str "most")))] (gEq false))) (mSeq (mSet 5 (mN [(.ex (mN [(.ex (mN [(.nm 1), (.nm 2)] gAt)), (.ex (mN [(.nm 1), (.nm 3)] gAt)), (.ex (mCall (f_law_any) [(.nm 0), (.nm 1)]))] gLst))] gSortSet))
  (mRet (mN [(.nm 4), (.ex (mN [(.nm 5)] gTuple)), (.ex (mN [(.ex (mC (.int 1))), (.ex (mCall (f_law_draw) [(.nm 0), (.ex (mC (.int 2)))]))] (gI2 fun i j => .int (i + j))))] gTup))) mNx)
  (mRet (mN [(.ex (mN [(.nm 4), (.ex (mN [(.nm 1), (.nm 2)] gAt)), (.ex (mN [(.nm 1), (.nm 3)] gAt))] gTup)), (.ex (mIf (mTest (mN [(.nm 4), (.ex (mC (.str "gap")))] (gEq false))) (mN [(.ex (mN [(.ex (mC (.int 1))), (.ex (mCall (f_law_draw) [(.nm 0), (.ex (mC (.int 2)))]))] (gI2 fun i j => .int (i + j))))] gTup) (mN [] gTup)))] gCatT)))))) := rfl
def d_law_drawn_1 : M Fl := (mSeq (mPar [11, 12] [(.ex (mCall (f_law_any) [(.nm 0), (.ex (mN [(.ex (mC (.int 5))), (.ex (mC (.int 20))), (.ex (mC (.int 20))), (.ex (mC (.int 30)))] gLst))])), (.ex (mCall (f_law_any) [(.nm 0), (.ex (mN [(.ex (mN [] gTup)), (.ex (mN [] gTup)), (.ex (mN [(.ex (mC (.str "pc")))] gTup))] gLst))]))])
  (mDrop (mApp 6 (mN [(.nm 10), (.nm 11), (.nm 12), (.ex (mCall (f_law_some) [(.nm 0), (.nm 5), (.ex (mC (.int 6)))]))] gTup))))
def c_law_drawn_1 : M Fl := (mFor (itS (.ex (mN [(.ex (mN [(.ex (mC (.str "big"))), (.ex (mC (.str "lab"))), (.ex (mC (.str "red")))] gLst)), (.ex (mN [(.ex (mC (.int 1))), (.ex (mCall (f_law_draw) [(.nm 0), (.ex (mC (.int 2)))]))] (gI2 fun i j => .int (i + j))))] gSlH))) (setN 10) d_law_drawn_1)
def d_law_drawn_2 : M Fl := (mDrop (mApp 7 (mN [(.nm 10), (.ex (mCall (f_law_some) [(.nm 0), (.nm 5), (.ex (mC (.int 7)))])), (.ex (mCall (f_law_any) [(.nm 0), (.ex (mN [(.ex (mC (.int 12))), (.ex (mC (.int 12))), (.ex (mC (.int 3))), (.ex (mC (.int 2))), (.ex (mC (.int 1)))] gLst))]))] gTup)))
def c_law_drawn_2 : M Fl := (mFor (itS (.ex (mN [(.ex (mN [(.ex (mC (.str "ann"))), (.ex (mC (.str "bob"))), (.ex (mC (.str "cat")))] gLst)), (.ex (mCall (f_law_draw) [(.nm 0), (.ex (mC (.int 4)))]))] gSlH))) (setN 10) d_law_drawn_2)
def c_law_drawn_3 : M RV := (mLc [17] (itS (.nm 7)) (setN 17) (mTest (mN [(.ex (mCall (f_law_draw) [(.nm 0), (.ex (mC (.int 2)))])), (.ex (mC (.int 0)))] (gEq false))) (mN [(.nm 17), (.ex (mC (.int 0)))] gAt))
def d_law_drawn_4 : M Fl := (mSeq (mSet 13 (mN [(.ex c_law_drawn_3)] gTuple))
  (mSeq (mPar [12, 11] [(.ex (mCall (f_law_any) [(.nm 0), (.ex (mN [(.ex (mN [] gTup)), (.ex (mN [] gTup)), (.ex (mN [] gTup)), (.ex (mN [(.ex (mC (.str "pc")))] gTup))] gLst))])), (.ex (mCall (f_law_any) [(.nm 0), (.ex (mN [(.ex (mC (.int 0))), (.ex (mC (.int 0))), (.ex (mC (.int 5))), (.ex (mC (.int 20)))] gLst))]))])
  (mDrop (mApp 8 (mN [(.nm 10), (.ex (mCall (f_law_any) [(.nm 0), (.ex (mN [(.ex (mC (.int 1))), (.ex (mC (.int 1))), (.ex (mC (.int 1))), (.ex (mC (.int 2)))] gLst))])), (.nm 13), (.nm 11), (.nm 12), (.ex (mCall (f_law_some) [(.nm 0), (.nm 5), (.ex (mC (.int 2)))]))] gTup)))))
def c_law_drawn_4 : M Fl := (mFor (itS (.ex (mN [(.ex (mN [(.ex (mC (.str "art"))), (.ex (mC (.str "bio"))), (.ex (mC (.str "che"))), (.ex (mC (.str "dut")))] gLst)), (.ex (mN [(.nm 2), (.ex (mCall (f_law_draw) [(.nm 0), (.ex (mN [(.ex (mN [(.nm 1), (.nm 2)] (gI2 fun i j => .int (i - j)))), (.ex (mC (.int 1)))] (gI2 fun i j => .int (i + j))))]))] (gI2 fun i j => .int (i + j))))] gSlH))) (setN 10) d_law_drawn_4)
def c_law_drawn_5 : M RV := (mLc [17] (itS (.nm 8)) (setN 17) mTrue (mN [(.nm 17), (.ex (mC (.int 0)))] gAt))
def d_law_drawn_6 : M Fl := (mSeq (mSet 16 (mCall (f_law_rule) [(.nm 0), (.nm 14)]))
  (mIfS (mTest (mN [(.nm 16), (.nm 9)] (gIn true))) (mDrop (mApp 9 (mRd 16))) mNx))
def c_law_drawn_6 : M Fl := (mFor (mN [(.ex (mIf (mTest (mN [(.ex (mN [(.nm 14)] gLen)), (.ex (mC (.int 1)))] (gI2 fun i j => .bl (decide (j < i))))) (mCall (f_law_any) [(.nm 0), (.ex (mN [(.ex (mC (.int 0))), (.ex (mC (.int 1))), (.ex (mC (.int 2))), (.ex (mC (.int 3)))] gLst))]) (mC (.int 0))))] gRI1) (setN 15) d_law_drawn_6)
theorem u_law_drawn : m_law_drawn = (mSeq (mPar [3, 4] [(.ex (mN [(.ex (mC (.int 1))), (.ex (mCall (f_law_draw) [(.nm 0), (.ex (mC (.int 2)))]))] (gI2 fun i j => .int (i + j)))), (.ex (mN [(.ex (mC (.int 2))), (.ex (mCall (f_law_draw) [(.nm 0), (.ex (mC (.int 3)))]))] (gI2 fun i j => .int (i + j))))])
  (mSeq (mPar [5, 6, 7] [(.ex (mN [(.ex (mN [(.nm 3), (.nm 4)] (gI2c cMul fun i j => .int (i * j))))] gRng1)), (.ex (mN [] gLst)), (.ex (mN [] gLst))])
  (mSeq (mPar [8, 9] [(.ex (mN [] gLst)), (.ex (mN [] gLst))])
  (mSeq c_law_drawn_1
  (mSeq c_law_drawn_2
  (mSeq c_law_drawn_4
  (mSeq (mSet 14 c_law_drawn_5)
  (mSeq c_law_drawn_6
  (mRet (mN [(.nm 3), (.nm 4), (.ex (mN [(.nm 6)] gTuple)), (.ex (mN [(.nm 7)] gTuple)), (.ex (mN [(.nm 8)] gTuple)), (.ex (mN [(.nm 9)] gTuple))] gTup)))))))))) := rfl
def c_law_book_1 : M RV := (mLc [4] (itS (.ex (mN [(.nm 0), (.ex (mC (.int 2)))] gAt))) (setN 4) mTrue (mMake "Room" f_Room_init [(.ex (mN [(.nm 4), (.ex (mC (.int 0)))] gAt)), (.ex (mN [(.nm 4), (.ex (mC (.int 1)))] gAt)), (.ex (mN [(.nm 4), (.ex (mC (.int 2)))] gAt)), (.ex (mN [(.nm 4), (.ex (mC (.int 3)))] gAt))]))
def c_law_book_2 : M RV := (mLc [4] (itS (.ex (mN [(.nm 0), (.ex (mC (.int 3)))] gAt))) (setN 4) mTrue (mMake "Person" f_Person_init [(.ex (mN [(.nm 4), (.ex (mC (.int 0)))] gAt)), (.ex (mN [(.nm 4), (.ex (mC (.int 1)))] gAt)), (.ex (mN [(.nm 4), (.ex (mC (.int 2)))] gAt))]))
def c_law_book_3 : M RV := (mLc [4] (itS (.ex (mN [(.nm 0), (.ex (mC (.int 4)))] gAt))) (setN 4) mTrue (mMake "Lesson" f_Lesson_init [(.ex (mN [(.nm 4), (.ex (mC (.int 0)))] gAt)), (.ex (mN [(.nm 4), (.ex (mC (.int 1)))] gAt)), (.ex (mN [(.nm 4), (.ex (mC (.int 2)))] gAt)), (.ex (mN [(.nm 4), (.ex (mC (.int 3)))] gAt)), (.ex (mN [(.nm 4), (.ex (mC (.int 4)))] gAt)), (.ex (mN [(.nm 4), (.ex (mC (.int 5)))] gAt))]))
theorem u_law_book : m_law_book = (mSeq (mSet 1 (mN [(.ex c_law_book_1)] gTuple))
  (mSeq (mSet 2 (mN [(.ex c_law_book_2)] gTuple))
  (mSeq (mSet 3 (mN [(.ex c_law_book_3)] gTuple))
  (mRet (mMake "Book" f_Book_init [(.ex (mMake "Week" f_Week_init [(.ex (mN [(.nm 0), (.ex (mC (.int 0)))] gAt)), (.ex (mN [(.nm 0), (.ex (mC (.int 1)))] gAt))])), (.nm 1), (.nm 2), (.nm 3), (.ex (mN [(.nm 0), (.ex (mC (.int 5)))] gAt))]))))) := rfl
def c_law_row_1 : M RV := (mLc [6] (itS (.ex (mN [(.nm 1), (.ex (mC (.int 2)))] gAt))) (setN 6) mTrue (mN [(.nm 6), (.ex (mC (.int 0)))] gAt))
def d_law_row_2 : M Fl := (mSeq (mSet 7 (mN [(.ex (mN [(.nm 6), (.ex (mC (.int 0)))] gAt)), (.ex (mCall (f_law_draw) [(.nm 0), (.ex (mN [(.ex (mN [(.nm 1), (.ex (mC (.int 0)))] gAt)), (.ex (mN [(.nm 1), (.ex (mC (.int 1)))] gAt))] (gI2c cMul fun i j => .int (i * j))))])), (.ex (mCall (f_law_any) [(.nm 0), (.ex (mN [(.nm 4), (.ex (mC (.int 2)))] gSlH))]))] gTup))
  (mDrop (mApp 3 (mIf (mOr (mTest (mN [(.nm 2)] (gIsN false))) (mTest (mN [(.ex (mCall (f_law_draw) [(.nm 0), (.ex (mC (.int 2)))])), (.ex (mC (.int 0)))] (gEq false)))) (mRd 7) (mN [(.nm 2), (.nm 5)] gAt)))))
def c_law_row_2 : M Fl := (mFor (itE (.ex (mN [(.nm 1), (.ex (mC (.int 4)))] gAt))) (setT [5, 6]) d_law_row_2)
theorem u_law_row : m_law_row = (mSeq (mPar [3, 4] [(.ex (mN [] gLst)), (.ex (mN [(.ex c_law_row_1), (.ex (mN [(.ex (mC (.str "hut")))] gLst))] gCatL))])
  (mSeq c_law_row_2
  (mRet (mN [(.nm 3)] gTuple)))) := rfl
def d_law_due_1 : M Fl := (mSeq (mIfS (mAnd (mTest (mN [(.nm 6), (.nm 5)] (gEq true))) (mAnd (mTest (mN [(.nm 7), (.nm 5)] (gEq true))) (mTest (mN [(.nm 6), (.nm 7)] (gEq true))))) (mDrop (mApp 4 (mN [(.nm 5), (.ex (mC (.int 0)))] gAt))) mNx)
  (mDrop (mApp 3 (mIf (mTest (mN [(.nm 6), (.nm 5)] (gEq false))) (mRd 7) (mRd 6)))))
def c_law_due_1 : M Fl := (mFor (itZ3 (.ex (mRd 0)) (.ex (mRd 1)) (.ex (mRd 2))) (setT [5, 6, 7]) d_law_due_1)
theorem u_law_due : m_law_due = (mSeq (mPar [3, 4] [(.ex (mN [] gLst)), (.ex (mN [] gLst))])
  (mSeq c_law_due_1
  (mRet (mIf (mTest (mN [(.ex (mN [(.nm 4)] gLen)), (.ex (mC (.int 0)))] (gI2 fun i j => .bl (decide (j < i))))) (mN [(.ex (mC (.str "clash"))), (.ex (mN [(.nm 4)] gTuple))] gTup) (mN [(.ex (mC (.str "merged"))), (.ex (mN [(.nm 3)] gTuple))] gTup))))) := rfl
def c_law_unlike_1 : M RV := (mLc [2, 3] (itZ2 (.nm 0) (.nm 1)) (setT [2, 3]) (mTest (mN [(.nm 2), (.nm 3)] (gEq true))) (mN [(.nm 2), (.ex (mC (.int 0)))] gAt))
theorem u_law_unlike : m_law_unlike = (mRet (mN [(.ex c_law_unlike_1)] gTuple)) := rfl
def c_law_three_right_1 : M RV := (mLc [9] (itS (.nm 6)) (setN 9) mTrue (mN [(.nm 8), (.nm 9)] (gIn false)))
def c_law_three_right_2 : M RV := (mLc [8] (itS (.ex (mN [(.nm 4), (.ex (mC (.int 1)))] gAt))) (setN 8) mTrue (mN [(.ex c_law_three_right_1)] gAll))
theorem u_law_three_right : m_law_three_right = (mSeq (mSet 4 (mCall (f_law_due) [(.nm 1), (.nm 2), (.nm 3)]))
  (mSeq (mIfS (mNot (mTest (mCall (f_law_is 5) [(.ex (mN [(.ex (mCall (f_merged) [(.nm 0), (.nm 1), (.nm 2), (.nm 3)])), (.ex (mCall (f_merged) [(.nm 0), (.nm 1), (.nm 3), (.nm 2)]))] gLst)), (.ex (mN [(.nm 4), (.nm 4)] gLst))]))) (mRet (mC (.bl false))) mNx)
  (mSeq (mSet 5 (mN [(.ex (mCall (f_merged) [(.nm 0), (.nm 1), (.nm 1), (.nm 3)])), (.ex (mCall (f_merged) [(.nm 0), (.nm 1), (.nm 2), (.nm 2)]))] gLst))
  (mSeq (mIfS (mNot (mTest (mCall (f_law_is 5) [(.nm 5), (.ex (mN [(.ex (mN [(.ex (mC (.str "merged"))), (.nm 3)] gTup)), (.ex (mN [(.ex (mC (.str "merged"))), (.nm 2)] gTup))] gLst))]))) (mRet (mC (.bl false))) mNx)
  (mSeq (mIfS (mNot (mTest (mCall (f_law_is 5) [(.ex (mN [(.ex (mCall (f_unlike_in) [(.nm 0), (.nm 2), (.nm 3)])), (.ex (mCall (f_unlike_in) [(.nm 0), (.nm 3), (.nm 2)]))] gLst)), (.ex (mN [(.ex (mN [(.ex (mCall (f_law_unlike) [(.nm 2), (.nm 3)]))] gLst)), (.ex (mC (.int 2)))] gRep))]))) (mRet (mC (.bl false))) mNx)
  (mSeq (mSet 6 (mN [(.ex (mCall (f_unlike_in) [(.nm 0), (.nm 1), (.nm 2)])), (.ex (mCall (f_unlike_in) [(.nm 0), (.nm 1), (.nm 3)])), (.ex (mCall (f_unlike_in) [(.nm 0), (.nm 2), (.nm 3)]))] gLst))
  (mSeq (mIfS (mTest (mN [(.ex (mN [(.nm 4), (.ex (mC (.int 0)))] gAt)), (.ex (mC (.str "clash")))] (gEq false))) (mRet (mN [(.ex c_law_three_right_2)] gAll)) mNx)
  (mSeq (mSet 5 (mN [(.nm 4), (.ex (mC (.int 1)))] gAt))
  (mSeq (mIfS (mNot (mTest (mCall (f_law_is 5) [(.ex (mCall (f_merged) [(.nm 0), (.nm 2), (.nm 5), (.nm 2)])), (.ex (mN [(.ex (mC (.str "merged"))), (.nm 5)] gTup))]))) (mRet (mC (.bl false))) mNx)
  (mSeq (mSet 7 (mN [(.ex (mN [(.ex (mN [(.nm 6), (.ex (mC (.int 0)))] gAt)), (.ex (mN [(.nm 6), (.ex (mC (.int 1)))] gAt))] gCatT))] gSortSet))
  (mRet (mCall (f_law_is 5) [(.ex (mCall (f_unlike_in) [(.nm 0), (.nm 1), (.nm 5)])), (.ex (mN [(.nm 7)] gTuple))])))))))))))) := rfl
def d_law_refused_1 : M Fl := (mDrop (mApp 6 (mN [(.ex (mN [(.nm 7)] gTup)), (.ex (mN [(.nm 2), (.ex (mC (.int 1)))] gSlL))] gCatT)))
def c_law_refused_1 : M Fl := (mFor (itS (.ex (mN [(.ex (mN [(.nm 3), (.nm 4)] gTup)), (.ex (mN [(.ex (mC (.str "zoo"))), (.nm 4), (.nm 5)] gTup)), (.ex (mN [(.nm 3), (.ex (mC (.str "1"))), (.nm 5)] gTup)), (.ex (mN [(.nm 3), (.ex (mN [(.ex (mC (.int 1)))] (gI1 fun i => .int (-i)))), (.nm 5)] gTup)), (.ex (mN [(.nm 3), (.nm 4), (.ex (mC (.int 3)))] gTup)), (.ex (mC .non))] gTup))) (setN 7) d_law_refused_1)
def c_law_refused_2 : M RV := (mWord wf39 (mCall (f_merged) [(.nm 1), (.nm 8), (.nm 2), (.nm 2)]))
def c_law_refused_3 : M RV := (mWord wf39 (mCall (f_merged) [(.nm 1), (.nm 2), (.nm 8), (.nm 2)]))
def c_law_refused_4 : M RV := (mWord wf39 (mCall (f_merged) [(.nm 1), (.nm 2), (.nm 2), (.nm 8)]))
def c_law_refused_5 : M RV := (mWord wf39 (mCall (f_unlike_in) [(.nm 1), (.nm 8), (.nm 2)]))
def c_law_refused_6 : M RV := (mWord wf39 (mCall (f_unlike_in) [(.nm 1), (.nm 2), (.nm 8)]))
theorem u_law_refused : m_law_refused = (mSeq (mAsg (setT [3, 4, 5]) (mN [(.nm 2), (.ex (mC (.int 0)))] gAt))
  (mSeq (mSet 6 (mN [(.ex (mC .non)), (.ex (mN [] gTup)), (.ex (mN [(.nm 2)] gList)), (.ex (mN [(.nm 2), (.ex (mN [(.nm 2), (.ex (mC (.int 1)))] gSlH))] gCatT)), (.ex (mN [(.nm 2), (.ex (mC (.int 1)))] gSlL)), (.ex (mC (.str "rows"))), (.ex (mN [(.nm 2), (.ex (mN [(.ex (mN [(.ex (mC (.str "zoo"))), (.ex (mC (.int 0))), (.ex (mC (.str "big")))] gTup))] gTup))] gCatT))] gLst))
  (mSeq c_law_refused_1
  (mSeq (mSet 8 (mCall (f_law_any) [(.nm 0), (.nm 6)]))
  (mSeq (mSet 9 (mN [(.ex c_law_refused_2)] gLst))
  (mSeq (mDrop (mApp 9 c_law_refused_3))
  (mSeq (mDrop (mApp 9 c_law_refused_4))
  (mSeq (mDrop (mApp 9 c_law_refused_5))
  (mSeq (mDrop (mApp 9 c_law_refused_6))
  (mRet (mN [(.nm 9), (.ex (mN [(.ex (mN [(.ex (mC (.str "!NoTimetable")))] gLst)), (.ex (mC (.int 5)))] gRep))] (gEq false)))))))))))) := rfl
def d_law_1 : M Fl := (mSeq (mSet 3 (mCall (f_law_drawn) [(.nm 1), (.ex (mC (.int 4))), (.ex (mC (.int 1)))]))
  (mSeq (mPar [4, 5] [(.ex (mCall (f_law_book) [(.nm 3)])), (.ex (mCall (f_law_row) [(.nm 1), (.nm 3), (.ex (mC .non))]))])
  (mSeq (mPar [6, 7] [(.ex (mCall (f_law_row) [(.nm 1), (.nm 3), (.nm 5)])), (.ex (mCall (f_law_row) [(.nm 1), (.nm 3), (.nm 5)]))])
  (mSeq (mIfS (mOr (mNot (mTest (mCall (f_law_three_right) [(.nm 4), (.nm 5), (.nm 6), (.nm 7)]))) (mNot (mTest (mCall (f_law_three_right) [(.nm 4), (.nm 6), (.nm 5), (.nm 7)])))) (mRet (mC (.bl false))) mNx)
  (mIfS (mNot (mTest (mCall (f_law_refused) [(.nm 1), (.nm 4), (.nm 5)]))) (mRet (mC (.bl false))) mNx)))))
def c_law_1 : M Fl := (mFor (mN [(.ex (mC (.int 5)))] gRI1) (setN 2) d_law_1)
theorem u_law : m_law = (mSeq (mSet 1 (mBox (mCall (f_law_hand) [(.nm 0)])))
  (mSeq c_law_1
  (mRet (mC (.bl true))))) := rfl
theorem v_is_integer (a0 : RV) (hp : List IO) : f_is_integer [a0] hp = fin (m_is_integer ⟨[some a0], hp⟩) := mkFn_fin 1 1 m_is_integer [a0] hp rfl
theorem v_is_between (a0 a1 a2 : RV) (hp : List IO) : f_is_between [a0, a1, a2] hp = fin (m_is_between ⟨[some a0, some a1, some a2], hp⟩) := mkFn_fin 3 3 m_is_between [a0, a1, a2] hp rfl
theorem v_is_number (a0 : RV) (hp : List IO) : f_is_number [a0] hp = fin (m_is_number ⟨[some a0], hp⟩) := mkFn_fin 1 1 m_is_number [a0] hp rfl
theorem v_is_name (a0 : RV) (hp : List IO) : f_is_name [a0] hp = fin (m_is_name ⟨[some a0, none], hp⟩) := mkFn_fin 2 1 m_is_name [a0] hp rfl
theorem v_is_ascending (a0 : RV) (hp : List IO) : f_is_ascending [a0] hp = fin (m_is_ascending ⟨[some a0, none], hp⟩) := mkFn_fin 2 1 m_is_ascending [a0] hp rfl
theorem v_is_names (a0 a1 : RV) (hp : List IO) : f_is_names [a0, a1] hp = fin (m_is_names ⟨[some a0, some a1, none], hp⟩) := mkFn_fin 3 2 m_is_names [a0, a1] hp rfl
theorem v_is_numbers (a0 : RV) (hp : List IO) : f_is_numbers [a0] hp = fin (m_is_numbers ⟨[some a0, none], hp⟩) := mkFn_fin 2 1 m_is_numbers [a0] hp rfl
theorem v_Week_init (a0 a1 a2 : RV) (hp : List IO) : f_Week_init [a0, a1, a2] hp = fin (m_Week_init ⟨[some a0, some a1, some a2], hp⟩) := mkFn_fin 3 3 m_Week_init [a0, a1, a2] hp rfl
theorem v_Week_has (a0 a1 : RV) (hp : List IO) : f_Week_has [a0, a1] hp = fin (m_Week_has ⟨[some a0, some a1], hp⟩) := mkFn_fin 2 2 m_Week_has [a0, a1] hp rfl
theorem v_is_slots (a0 a1 : RV) (hp : List IO) : f_is_slots [a0, a1] hp = fin (m_is_slots ⟨[some a0, some a1, none], hp⟩) := mkFn_fin 3 2 m_is_slots [a0, a1] hp rfl
theorem v_is_laid (a0 : RV) (hp : List IO) : f_is_laid [a0] hp = fin (m_is_laid ⟨[some a0], hp⟩) := mkFn_fin 1 1 m_is_laid [a0] hp rfl
theorem v_is_timetable (a0 : RV) (hp : List IO) : f_is_timetable [a0] hp = fin (m_is_timetable ⟨[some a0, none], hp⟩) := mkFn_fin 2 1 m_is_timetable [a0] hp rfl
theorem v_check_whole (a0 a1 : RV) (hp : List IO) : f_check_whole [a0, a1] hp = fin (m_check_whole ⟨[some a0, some a1, none, none, none, none], hp⟩) := mkFn_fin 6 2 m_check_whole [a0, a1] hp rfl
theorem v_gone_to (a0 a1 a2 : RV) (hp : List IO) : f_gone_to [a0, a1, a2] hp = fin (m_gone_to ⟨[some a0, some a1, some a2], hp⟩) := mkFn_fin 3 3 m_gone_to [a0, a1, a2] hp rfl
theorem v_merged (a0 a1 a2 a3 : RV) (hp : List IO) : f_merged [a0, a1, a2, a3] hp = fin (m_merged ⟨[some a0, some a1, some a2, some a3, none, none, none, none, none, none, none, none], hp⟩) := mkFn_fin 12 4 m_merged [a0, a1, a2, a3] hp rfl
theorem v_unlike_in (a0 a1 a2 : RV) (hp : List IO) : f_unlike_in [a0, a1, a2] hp = fin (m_unlike_in ⟨[some a0, some a1, some a2, none, none], hp⟩) := mkFn_fin 5 3 m_unlike_in [a0, a1, a2] hp rfl
theorem v_Room_init (a0 a1 a2 a3 a4 : RV) (hp : List IO) : f_Room_init [a0, a1, a2, a3, a4] hp = fin (m_Room_init ⟨[some a0, some a1, some a2, some a3, some a4], hp⟩) := mkFn_fin 5 5 m_Room_init [a0, a1, a2, a3, a4] hp rfl
theorem v_Person_init (a0 a1 a2 a3 : RV) (hp : List IO) : f_Person_init [a0, a1, a2, a3] hp = fin (m_Person_init ⟨[some a0, some a1, some a2, some a3], hp⟩) := mkFn_fin 4 4 m_Person_init [a0, a1, a2, a3] hp rfl
theorem v_Lesson_init (a0 a1 a2 a3 a4 a5 a6 : RV) (hp : List IO) : f_Lesson_init [a0, a1, a2, a3, a4, a5, a6] hp = fin (m_Lesson_init ⟨[some a0, some a1, some a2, some a3, some a4, some a5, some a6], hp⟩) := mkFn_fin 7 7 m_Lesson_init [a0, a1, a2, a3, a4, a5, a6] hp rfl
theorem v_is_rule (a0 : RV) (hp : List IO) : f_is_rule [a0] hp = fin (m_is_rule ⟨[some a0], hp⟩) := mkFn_fin 1 1 m_is_rule [a0] hp rfl
theorem v_names_of (a0 : RV) (hp : List IO) : f_names_of [a0] hp = fin (m_names_of ⟨[some a0], hp⟩) := mkFn_fin 1 1 m_names_of [a0] hp rfl
theorem v_is_behind (a0 a1 : RV) (hp : List IO) : f_is_behind [a0, a1] hp = fin (m_is_behind ⟨[some a0, some a1], hp⟩) := mkFn_fin 2 2 m_is_behind [a0, a1] hp rfl
theorem v_Book_put_lessons (a0 a1 : RV) (hp : List IO) : f_Book_put_lessons [a0, a1] hp = fin (m_Book_put_lessons ⟨[some a0, some a1, none, none, none], hp⟩) := mkFn_fin 5 2 m_Book_put_lessons [a0, a1] hp rfl
theorem v_Book_put_rules (a0 a1 : RV) (hp : List IO) : f_Book_put_rules [a0, a1] hp = fin (m_Book_put_rules ⟨[some a0, some a1, none, none, none], hp⟩) := mkFn_fin 5 2 m_Book_put_rules [a0, a1] hp rfl
theorem v_Book_init (a0 a1 a2 a3 a4 a5 : RV) (hp : List IO) : f_Book_init [a0, a1, a2, a3, a4, a5] hp = fin (m_Book_init ⟨[some a0, some a1, some a2, some a3, some a4, some a5, none, none, none], hp⟩) := mkFn_fin 9 6 m_Book_init [a0, a1, a2, a3, a4, a5] hp rfl
theorem v_law_hand (a0 : RV) (hp : List IO) : f_law_hand [a0] hp = fin (m_law_hand ⟨[some a0, none, none], hp⟩) := mkFn_fin 3 1 m_law_hand [a0] hp rfl
theorem v_law_draw (a0 a1 : RV) (hp : List IO) : f_law_draw [a0, a1] hp = fin (m_law_draw ⟨[some a0, some a1, none, none, none], hp⟩) := mkFn_fin 5 2 m_law_draw [a0, a1] hp rfl
theorem v_law_any (a0 a1 : RV) (hp : List IO) : f_law_any [a0, a1] hp = fin (m_law_any ⟨[some a0, some a1], hp⟩) := mkFn_fin 2 2 m_law_any [a0, a1] hp rfl
theorem v_law_is (n : Nat) (a0 a1 : RV) (hp : List IO) : f_law_is (n + 1) [a0, a1] hp = fin ((m_law_is (f_law_is n)) ⟨[some a0, some a1, none, none], hp⟩) := mkFn_fin 4 2 (m_law_is (f_law_is n)) [a0, a1] hp rfl
theorem v_law_some (a0 a1 a2 : RV) (hp : List IO) : f_law_some [a0, a1, a2] hp = fin (m_law_some ⟨[some a0, some a1, some a2, none], hp⟩) := mkFn_fin 4 3 m_law_some [a0, a1, a2] hp rfl
theorem v_law_rule (a0 a1 : RV) (hp : List IO) : f_law_rule [a0, a1] hp = fin (m_law_rule ⟨[some a0, some a1, none, none, none, none], hp⟩) := mkFn_fin 6 2 m_law_rule [a0, a1] hp rfl
theorem v_law_drawn (a0 a1 a2 : RV) (hp : List IO) : f_law_drawn [a0, a1, a2] hp = fin (m_law_drawn ⟨[some a0, some a1, some a2, none, none, none, none, none, none, none, none, none, none, none, none, none, none, none], hp⟩) := mkFn_fin 18 3 m_law_drawn [a0, a1, a2] hp rfl
theorem v_law_book (a0 : RV) (hp : List IO) : f_law_book [a0] hp = fin (m_law_book ⟨[some a0, none, none, none, none], hp⟩) := mkFn_fin 5 1 m_law_book [a0] hp rfl
theorem v_law_row (a0 a1 a2 : RV) (hp : List IO) : f_law_row [a0, a1, a2] hp = fin (m_law_row ⟨[some a0, some a1, some a2, none, none, none, none, none], hp⟩) := mkFn_fin 8 3 m_law_row [a0, a1, a2] hp rfl
theorem v_law_due (a0 a1 a2 : RV) (hp : List IO) : f_law_due [a0, a1, a2] hp = fin (m_law_due ⟨[some a0, some a1, some a2, none, none, none, none, none], hp⟩) := mkFn_fin 8 3 m_law_due [a0, a1, a2] hp rfl
theorem v_law_unlike (a0 a1 : RV) (hp : List IO) : f_law_unlike [a0, a1] hp = fin (m_law_unlike ⟨[some a0, some a1, none, none], hp⟩) := mkFn_fin 4 2 m_law_unlike [a0, a1] hp rfl
theorem v_law_three_right (a0 a1 a2 a3 : RV) (hp : List IO) : f_law_three_right [a0, a1, a2, a3] hp = fin (m_law_three_right ⟨[some a0, some a1, some a2, some a3, none, none, none, none, none, none], hp⟩) := mkFn_fin 10 4 m_law_three_right [a0, a1, a2, a3] hp rfl
theorem v_law_refused (a0 a1 a2 : RV) (hp : List IO) : f_law_refused [a0, a1, a2] hp = fin (m_law_refused ⟨[some a0, some a1, some a2, none, none, none, none, none, none, none], hp⟩) := mkFn_fin 10 3 m_law_refused [a0, a1, a2] hp rfl
theorem v_law (a0 : RV) (hp : List IO) : f_law [a0] hp = fin (m_law ⟨[some a0, none, none, none, none, none, none, none], hp⟩) := mkFn_fin 8 1 m_law [a0] hp rfl
end Py

set_option Elab.async false
set_option linter.all false
set_option maxRecDepth 100000
set_option maxHeartbeats 4000000
namespace Py
open PySem PySem.Spec PyProof.Rows L2
local macro_rules | `(tactic| walk_at "py") => `(tactic| simp only [ev_C, ev_tr, ev_Nx, ev_Rd, kRd1, ev_N, kN1, kN2, kG1, ev_L0, ev_L1, kL1a, kL1b, kL2a, kL2b, ev_nm, kNm1, ev_ex, kX1, kX2, kX3, ev_T, kT1, kT2, ev_B, kB1a, ev_And, ev_Or, ev_Not, kNot1, ev_If, ev_IfS, kIf1, kIf2, kIf3, ev_Seq, kSeq1, kSeq2, kSeq3, ev_Drop, kDrop1, kDrop2, ev_Set, kSet1, kSet2, ev_Ret, kRet1, kRet2, kRet3, ev_Par, ev_pL0, ev_pL1, kPut1, ev_put1, ev_put2, ev_Asg, kAsg1, kAs2a, ev_Box, kBox1, kBox2, ev_Call, ev_gCall, kCall1, kCall2, ev_Make, ev_gMake, kMk1, ev_Raise, ev_rdL0, ev_rdL1, kC1, ev_rdl, ev_rdr, ev_rdS, kR1, kR2, kR3, kR4, ev_sq1, ev_sq2, ev_sq3, ev_sq4, ev_I2, ev_I1, ev_Abs, ev_Int, ev_At, kAt1, kV1, ev_Len1, ev_Len2, ev_Len3, ev_Tuple, kTu1, ev_List, kLi1, ev_bx0, ev_bx1, ev_bx2, kB1b, ev_bv1, ev_Tup, ev_Lst, kTup_0, kLst_0, kTup_1, kLst_1, kTup_2, kLst_2, kTup_3, kLst_3, kTup_4, kLst_4, kTup_5, kLst_5, kTup_6, kLst_6, kTup_7, kLst_7, kApp1, kAp2a, ev_IsN, ev_IsT, ev_IsT2, kIs1, kIs2a, ev_ty1, ev_ty2, ev_ty3, ev_ty4, ev_ty5, ev_ty7, ev_ty8, ev_SlH, ev_SlL, fSl1, fSl2, fSl3, fSl4, ev_sN, atI_0, atI_1, atI_2, atI_3, atI_4, atI_5, kFor1, kFor2, fin1, fin2, fin3, fin4, ev_Ch, kCh1a, kCh2a, kCh3a, kCh4a, kCh5a, ev_I2c, ev_sq5, ev_ty6, ev_LenS, ev_Len4, ev_CatT, ev_CatL, kTup1, kLst1, kAp3a, ev_App, kAp0a, beq_self_eq_true, isL1, kSq1, kTy1, kTy2, kLe1, ev_Fl, kFl1, kFl2a, ev_SI, kSI1, kSI2a, ev_SF, kSF1, kSF2a, List.length_map, ev_All, List.getElem?_cons_zero, List.getElem?_cons_succ, List.set_cons_zero, List.set_cons_succ, Bool.not_true, Bool.not_false, isa, decide_true, decide_false, Bool.false_eq_true, if_true, if_false, setT, setNs, Option.map_some, isNon, Bool.or_true, Bool.or_false, Bool.true_or, Bool.false_or, ite_true, ite_false, *])
/-! Q2: names, numbers, lots, rows. -/
abbrev T3 := Str × Int × Str
def tr (t : T3) : IV := .tup [.str t.1, .int t.2.1, .str t.2.2]
def sgB (c : Nat) : Bool := !(Builtin.Str.occurrences "abcdefghijklmnopqrstuvwxyz" ⟨#[c]⟩ 0 (Str.length "abcdefghijklmnopqrstuvwxyz") 1).isEmpty
def nmB (z : Str) : Bool := decide (1 ≤ z.length) && decide (z.length ≤ 12) && z.cps.toList.all sgB && PyData.strOk z
section
variable {hp : List IO} {i a b : Int} {z : Str}
theorem s_int : f_is_integer [.v (.int i)] hp = .ok (.v (.bl true)) hp := rfl
theorem s_int_s : f_is_integer [.v (.str z)] hp = .ok (.v (.bl false)) hp := rfl
theorem s_num : f_is_number [.v (.int i)] hp = .ok (.v (.bl (decide (0 ≤ i)))) hp := rfl
theorem s_num_s : f_is_number [.v (.str z)] hp = .ok (.v (.bl false)) hp := rfl
theorem s_btw (h1 : a ≤ i) (h2 : i ≤ b) : f_is_between [.v (.int i), .v (.int a), .v (.int b)] hp = .ok (.v (.bl true)) hp := by
  have e := @s_int
  rw [v_is_between, u_is_between]
  walk_at "py"
theorem nm_len (h : nmB z = true) : 1 ≤ z.length ∧ z.length ≤ 12 ∧ z.cps.toList.all sgB = true ∧ PyData.strOk z = true := by
  unfold nmB at h
  simp only [Bool.and_eq_true, decide_eq_true_eq] at h
  exact ⟨h.1.1.1, h.1.1.2, h.1.2, h.2⟩
theorem s_name (h : nmB z = true) : f_is_name [.v (.str z)] hp = .ok (.v (.bl true)) hp := by
  obtain ⟨h1, h2, h3, h4⟩ := nm_len h
  have h5 : z.length ≤ 100000 := by omega
  have h6 : (1 : Int) ≤ (z.length : Int) := by omega
  have h7 : (z.length : Int) ≤ 12 := by omega
  have e : c_is_name_1 ⟨[some (.v (.str z)), none], hp⟩ = .ok (.l (z.cps.toList.map fun c => .bl (sgB c))) ⟨[some (.v (.str z)), none], hp⟩ :=
    lc_map (v0 := fun c => .str ⟨#[c]⟩) (g := fun c => .bl (sgB c)) z.cps.toList rfl rfl rfl (by show z.cps.toList.length ≤ _; have : z.cps.toList.length = z.length := Array.length_toList; omega) (fun c _ => ⟨⟨[some (.v (.str z)), some (.v (.str ⟨#[c]⟩))], hp⟩, rfl, rfl, rfl⟩)
  rw [v_is_name, u_is_name]
  walk_at "py"
theorem s_name_i : f_is_name [.v (.int i)] hp = .ok (.v (.bl false)) hp := rfl
theorem gLt_s {u v : Str} {s : S} : gLt [.v (.str u), .v (.str v)] s = .ok (.v (.bl (ltS u v))) s := rfl
theorem gLt_i {s : S} {i j : Int} : gLt [.v (.int i), .v (.int j)] s = .ok (.v (.bl (decide (i < j)))) s := rfl
theorem s_asc {r : RV} {vs : List IV} (B : Nat → Bool) (hr : r = .v (.tup vs) ∨ r = .l vs) (hl : vs.length ≤ 1000)
    (hB : ∀ k x y, vs[k]? = some x → vs[k + 1]? = some y → ∀ s, gLt [.v x, .v y] s = .ok (.v (.bl (B k))) s) :
    f_is_ascending [r] hp = .ok (.v (.bl ((List.range (vs.length - 1)).all B))) hp := by
  have h1 : (-1000000 : Int) ≤ 1 := by decide
  have h2 : (1 : Int) ≤ 1000000 := by decide
  have h3 : (-1000000 : Int) ≤ (vs.length : Int) := by omega
  have h4 : (vs.length : Int) ≤ 1000000 := by omega
  have e0 := @ev_RI2
  have key : ∀ r', kR (some (some r)) = some r' → (∀ s, gLen [r'] s = .ok (.v (.int vs.length)) s) → (∀ s, seqOf s r' = some vs) → f_is_ascending [r] hp = .ok (.v (.bl ((List.range (vs.length - 1)).all B))) hp := by
    intro r' g1 g2 g3
    have e : c_is_ascending_1 ⟨[some r, none], hp⟩ = .ok (.l ((List.range (vs.length - 1)).map fun k => .bl (B k))) ⟨[some r, none], hp⟩ := by
      refine lc_map (src := fun _ => some (rngI 1 ((vs.length : Int) - 1).toNat)) (v0 := fun k => .int (1 + ((k : Nat) : Int))) (g := fun k => .bl (B k)) (List.range (vs.length - 1)) ?_ ?_ rfl (by rw [List.length_range]; omega) ?_
      · clear hB
        walk_at "py"
      · show some (rngI 1 ((vs.length : Int) - 1).toNat) = _
        rw [show ((vs.length : Int) - 1).toNat = vs.length - 1 by omega]
        rfl
      · intro k hk
        have hk' := List.mem_range.mp hk
        have x1 : vs[k]? = some vs[k] := List.getElem?_eq_getElem (by omega)
        have x2 : vs[k + 1]? = some vs[k + 1] := List.getElem?_eq_getElem (by omega)
        have hb := hB k _ _ x1 x2
        have a1 : atI vs (1 + (k : Int) - 1) = some vs[k] := by
          rw [show (1 + (k : Int) - 1) = (k : Int) by omega]
          exact atI_nat x1
        have a2 : atI vs (1 + (k : Int)) = some vs[k + 1] := by
          rw [show (1 + (k : Int)) = ((k + 1 : Nat) : Int) by omega]
          exact atI_nat x2
        refine ⟨⟨[some r, some (.v (.int (1 + (k : Int))))], hp⟩, rfl, rfl, ?_⟩
        clear hB x1 x2
        walk_at "py"
    rw [v_is_ascending, u_is_ascending]
    clear hB
    walk_at "py"
  rcases hr with rfl | rfl
  · exact key _ rfl (fun _ => rfl) (fun _ => rfl)
  · exact key _ rfl (fun _ => rfl) (fun _ => rfl)
/-- texts -/
theorem s_asc_s {r : RV} {zs : List Str} (hr : r = .v (.tup (zs.map .str)) ∨ r = .l (zs.map .str)) (hl : zs.length ≤ 1000) :
    ∃ b, f_is_ascending [r] hp = .ok (.v (.bl b)) hp ∧ (Up zs → b = true) := by
  refine ⟨_, s_asc (fun k => ltS (zs.getD k ⟨#[]⟩) (zs.getD (k + 1) ⟨#[]⟩)) hr (by rw [List.length_map]; exact hl) ?_, ?_⟩
  · intro k x y h1 h2 s
    rw [List.getElem?_map] at h1 h2
    obtain ⟨u, h3, rfl⟩ := Option.map_eq_some_iff.mp h1
    obtain ⟨v, h4, rfl⟩ := Option.map_eq_some_iff.mp h2
    rw [gLt_s, List.getD_eq_getElem?_getD, List.getD_eq_getElem?_getD, h3, h4]
    rfl
  · intro up
    rw [List.all_eq_true]
    intro k hk
    have hk' := List.mem_range.mp hk
    rw [List.length_map] at hk'
    have h1 : k < zs.length := by omega
    have h2 : k + 1 < zs.length := by omega
    rw [List.getD_eq_getElem?_getD, List.getD_eq_getElem?_getD, List.getElem?_eq_getElem h1, List.getElem?_eq_getElem h2]
    exact List.pairwise_iff_getElem.mp up k (k + 1) h1 h2 (by omega)
/-- numbers -/
theorem s_asc_i {is : List Int} (hl : is.length ≤ 1000) (h : is.Pairwise fun a b => a < b) :
    f_is_ascending [.v (.tup (is.map .int))] hp = .ok (.v (.bl true)) hp := by
  rw [s_asc (vs := is.map .int) (fun k => decide (is.getD k 0 < is.getD (k + 1) 0)) (.inl rfl) (by rw [List.length_map]; exact hl) ?_]
  · congr 3
    rw [List.all_eq_true]
    intro k hk
    have hk' := List.mem_range.mp hk
    rw [List.length_map] at hk'
    have h1 : k < is.length := by omega
    have h2 : k + 1 < is.length := by omega
    rw [List.getD_eq_getElem?_getD, List.getD_eq_getElem?_getD, List.getElem?_eq_getElem h1, List.getElem?_eq_getElem h2]
    exact decide_eq_true (List.pairwise_iff_getElem.mp h k (k + 1) h1 h2 (by omega))
  · intro k x y h1 h2 s
    rw [List.getElem?_map] at h1 h2
    obtain ⟨u, h3, rfl⟩ := Option.map_eq_some_iff.mp h1
    obtain ⟨v, h4, rfl⟩ := Option.map_eq_some_iff.mp h2
    rw [gLt_i, List.getD_eq_getElem?_getD, List.getD_eq_getElem?_getD, h3, h4]
    rfl
theorem all_tt {γ : Type} {l : List γ} : (l.all fun _ => true) = true := by
  rw [List.all_eq_true]
  exact fun _ _ => rfl
theorem s_names {zs : List Str} {m : Int} (hm : (zs.length : Int) ≤ m) (hl : zs.length ≤ 1000) (hz : ∀ z ∈ zs, nmB z = true) (up : Up zs) :
    f_is_names [.v (.tup (zs.map .str)), .v (.int m)] hp = .ok (.v (.bl true)) hp := by
  obtain ⟨b, e1, e2⟩ := s_asc_s (hp := hp) (r := .v (.tup (zs.map .str))) (.inl rfl) hl
  obtain rfl := e2 up
  have hm' : ¬ m < (zs.length : Int) := by omega
  have e : c_is_names_1 ⟨[some (.v (.tup (zs.map .str))), some (.v (.int m)), none], hp⟩ = .ok (.l (zs.map fun _ => .bl true)) ⟨[some (.v (.tup (zs.map .str))), some (.v (.int m)), none], hp⟩ :=
    lc_map (v0 := .str) (g := fun _ => .bl true) zs rfl rfl rfl (by omega) (fun z h => ⟨⟨[some (.v (.tup (zs.map .str))), some (.v (.int m)), some (.v (.str z))], hp⟩, rfl, rfl, by
      have h' := s_name (hp := hp) (hz z h)
      clear hz
      walk_at "py"⟩)
  have t := @all_tt
  rw [v_is_names, u_is_names]
  clear hz up
  walk_at "py"
theorem s_numbers {is : List Int} (hl : is.length ≤ 1000) (hz : ∀ i ∈ is, 0 ≤ i) (up : is.Pairwise fun a b => a < b) :
    f_is_numbers [.v (.tup (is.map .int))] hp = .ok (.v (.bl true)) hp := by
  have e1 := s_asc_i (hp := hp) hl up
  have e : c_is_numbers_1 ⟨[some (.v (.tup (is.map .int))), none], hp⟩ = .ok (.l (is.map fun _ => .bl true)) ⟨[some (.v (.tup (is.map .int))), none], hp⟩ :=
    lc_map (v0 := .int) (g := fun _ => .bl true) is rfl rfl rfl (by omega) (fun z h => ⟨⟨[some (.v (.tup (is.map .int))), some (.v (.int z))], hp⟩, rfl, rfl, by
      have h' := hz z h
      have e := @s_num
      clear hz
      walk_at "py"⟩)
  have t := @all_tt
  rw [v_is_numbers, u_is_numbers]
  clear hz up
  walk_at "py"
/-! rows -/
structure GT (t : T3) : Prop where
  n : nmB t.1 = true
  s : 0 ≤ t.2.1
  r : nmB t.2.2 = true
theorem s_laid {t : T3} (h : GT t) : f_is_laid [.v (tr t)] hp = .ok (.v (.bl true)) hp := by
  have h1 := s_name (hp := hp) h.n
  have h2 := @s_num
  have h3 := s_name (hp := hp) h.r
  have h4 := h.s
  have h5 : ∀ s : S, gEq true [.v (.int ([IV.str t.1, .int t.2.1, .str t.2.2].length : Int)), .v (.int 3)] s = .ok (.v (.bl false)) s := fun _ => rfl
  rw [v_is_laid, u_is_laid, tr]
  clear h
  walk_at "py"
end

end Py

set_option Elab.async false
set_option linter.all false
set_option maxRecDepth 100000
set_option maxHeartbeats 4000000
namespace Py
open PySem PySem.Spec PyProof.Rows L2
local macro_rules | `(tactic| walk_at "py") => `(tactic| simp only [ev_C, ev_tr, ev_Nx, ev_Rd, kRd1, ev_N, kN1, kN2, kG1, ev_L0, ev_L1, kL1a, kL1b, kL2a, kL2b, ev_nm, kNm1, ev_ex, kX1, kX2, kX3, ev_T, kT1, kT2, ev_B, kB1a, ev_And, ev_Or, ev_Not, kNot1, ev_If, ev_IfS, kIf1, kIf2, kIf3, ev_Seq, kSeq1, kSeq2, kSeq3, ev_Drop, kDrop1, kDrop2, ev_Set, kSet1, kSet2, ev_Ret, kRet1, kRet2, kRet3, ev_Par, ev_pL0, ev_pL1, kPut1, ev_put1, ev_put2, ev_Asg, kAsg1, kAs2a, ev_Box, kBox1, kBox2, ev_Call, ev_gCall, kCall1, kCall2, ev_Make, ev_gMake, kMk1, ev_Raise, ev_rdL0, ev_rdL1, kC1, ev_rdl, ev_rdr, ev_rdS, kR1, kR2, kR3, kR4, ev_sq1, ev_sq2, ev_sq3, ev_sq4, ev_I2, ev_I1, ev_Abs, ev_Int, ev_At, kAt1, kV1, ev_Len1, ev_Len2, ev_Len3, ev_Tuple, kTu1, ev_List, kLi1, ev_bx0, ev_bx1, ev_bx2, kB1b, ev_bv1, ev_Tup, ev_Lst, kTup_0, kLst_0, kTup_1, kLst_1, kTup_2, kLst_2, kTup_3, kLst_3, kTup_4, kLst_4, kTup_5, kLst_5, kTup_6, kLst_6, kTup_7, kLst_7, kApp1, kAp2a, ev_IsN, ev_IsT, ev_IsT2, kIs1, kIs2a, ev_ty1, ev_ty2, ev_ty3, ev_ty4, ev_ty5, ev_ty7, ev_ty8, ev_SlH, ev_SlL, fSl1, fSl2, fSl3, fSl4, ev_sN, atI_0, atI_1, atI_2, atI_3, atI_4, atI_5, kFor1, kFor2, fin1, fin2, fin3, fin4, ev_Ch, kCh1a, kCh2a, kCh3a, kCh4a, kCh5a, ev_I2c, ev_sq5, ev_ty6, ev_LenS, ev_Len4, ev_CatT, ev_CatL, kTup1, kLst1, kAp3a, ev_App, kAp0a, beq_self_eq_true, isL1, kSq1, kTy1, kTy2, kLe1, ev_Fl, kFl1, kFl2a, ev_SI, kSI1, kSI2a, ev_SF, kSF1, kSF2a, List.length_map, ev_All, List.getElem?_cons_zero, List.getElem?_cons_succ, List.set_cons_zero, List.set_cons_succ, Bool.not_true, Bool.not_false, isa, decide_true, decide_false, Bool.false_eq_true, if_true, if_false, setT, setNs, Option.map_some, isNon, Bool.or_true, Bool.or_false, Bool.true_or, Bool.false_or, ite_true, ite_false, *])
/-! Q3: equality of data; timetables; merged and unlike_in. -/
section
variable {hp : List IO} {s : S} {neg : Bool}
/-! equality -/
structure OkT (t : T3) : Prop where
  n : PyData.strOk t.1 = true
  r : PyData.strOk t.2.2 = true
theorem GT.ok {t : T3} (h : GT t) : OkT t := ⟨(nm_len h.n).2.2.2, (nm_len h.r).2.2.2⟩
theorem eqv_tr {t u : T3} : PyData.eqv (.tuple [.str t.1, .int t.2.1, .str t.2.2]) (.tuple [.str u.1, .int u.2.1, .str u.2.2]) = decide (t = u) := by
  obtain ⟨a, i, b⟩ := t
  obtain ⟨c, j, d⟩ := u
  show (a == c && (i == j && (b == d && true))) = _
  rw [Bool.eq_iff_iff]
  simp only [Bool.and_eq_true, beq_iff_eq, decide_eq_true_eq, Prod.mk.injEq, and_true]
theorem shp_tr {t : T3} (h : OkT t) : SeqAt.shaped (.tuple [.str t.1, .int t.2.1, .str t.2.2]) = true := by
  simp only [SeqAt.shaped, PyData.canLay0, PyData.canLayAll0, h.n, h.r, Bool.and_self, Bool.true_and, PyData.depth, PyData.depthAll]
  rfl
theorem eq_tr {t u : T3} (ht : OkT t) (hu : OkT u) : gEq neg [.v (tr t), .v (tr u)] s = .ok (.v (.bl (if neg then !decide (t = u) else decide (t = u)))) s := by
  show (match SeqAt.shaped (.tuple [.str t.1, .int t.2.1, .str t.2.2]) && SeqAt.shaped (.tuple [.str u.1, .int u.2.1, .str u.2.2]) with | true => (Rs.ok (RV.v (.bl (if neg then !PyData.eqv (.tuple [.str t.1, .int t.2.1, .str t.2.2]) (.tuple [.str u.1, .int u.2.1, .str u.2.2]) else PyData.eqv (.tuple [.str t.1, .int t.2.1, .str t.2.2]) (.tuple [.str u.1, .int u.2.1, .str u.2.2])))) s : Rs RV) | false => .bad) = _
  rw [shp_tr ht, shp_tr hu, eqv_tr]
  rfl
theorem toD_strs : ∀ {zs : List Str}, toDL (zs.map .str) = some (zs.map .str)
  | [] => by rw [List.map_nil, toDL]; rfl
  | z :: zs => by
    rw [List.map_cons, toDL, toD, toD_strs]
    rfl
theorem eqv_strs : ∀ {xs ys : List Str}, PyData.eqvAll (xs.map .str) (ys.map .str) = decide (xs = ys)
  | [], [] => by rw [List.map_nil, PyData.eqvAll]; rfl
  | [], _ :: _ => by rw [List.map_nil, List.map_cons, PyData.eqvAll]; rfl
  | _ :: _, [] => by rw [List.map_nil, List.map_cons, PyData.eqvAll]; rfl
  | x :: xs, y :: ys => by
    rw [List.map_cons, List.map_cons, PyData.eqvAll, eqv_strs, PyData.eqv, Bool.eq_iff_iff]
    simp only [Bool.and_eq_true, beq_iff_eq, decide_eq_true_eq, List.cons.injEq]
theorem lay_strs : ∀ {zs : List Str}, (∀ z ∈ zs, PyData.strOk z = true) → PyData.canLayAll0 (zs.map .str) = true
  | [], _ => by rw [List.map_nil, PyData.canLayAll0]
  | z :: zs, h => by
    rw [List.map_cons, PyData.canLayAll0, PyData.canLay0, h z (List.mem_cons_self ..), lay_strs fun y hy => h y (List.mem_cons_of_mem _ hy)]
    rfl
theorem dep_strs : ∀ {zs : List Str}, PyData.depthAll (zs.map .str) = 0
  | [] => by rw [List.map_nil, PyData.depthAll]
  | z :: zs => by
    rw [List.map_cons, PyData.depthAll, PyData.depth, dep_strs]
    rfl
theorem shp_strs {zs : List Str} (h : ∀ z ∈ zs, PyData.strOk z = true) : SeqAt.shaped (.list (zs.map .str)) = true ∧ SeqAt.shaped (.tuple (zs.map .str)) = true := by
  unfold SeqAt.shaped
  rw [PyData.canLay0, PyData.canLay0, PyData.depth, PyData.depth, lay_strs h, dep_strs]
  exact ⟨rfl, rfl⟩
theorem shp_str {z : Str} (h : PyData.strOk z = true) : SeqAt.shaped (.str z) = true := by
  unfold SeqAt.shaped
  rw [PyData.canLay0, PyData.depth, h]
  rfl
theorem eq_strs {r1 r2 : RV} {xs ys : List Str} (h1 : rD s.hp r1 = some (.list (xs.map .str))) (h2 : rD s.hp r2 = some (.list (ys.map .str))) (hx : ∀ z ∈ xs, PyData.strOk z = true) (hy : ∀ z ∈ ys, PyData.strOk z = true) :
    gEq neg [r1, r2] s = .ok (.v (.bl (if neg then !decide (xs = ys) else decide (xs = ys)))) s := by
  show (match rD s.hp r1, rD s.hp r2 with | some d, some e => (match SeqAt.shaped d && SeqAt.shaped e with | true => (Rs.ok (RV.v (.bl (if neg then !PyData.eqv d e else PyData.eqv d e))) s : Rs RV) | false => .bad) | _, _ => .bad) = _
  rw [h1, h2]
  simp only [(shp_strs hx).1, (shp_strs hy).1, Bool.and_self, PyData.eqv, eqv_strs]
theorem rD_l {zs : List Str} : rD hp (.l (zs.map .str)) = some (.list (zs.map .str)) := by
  rw [rD, toD_strs]
theorem eq_ll {xs ys : List Str} (hx : ∀ z ∈ xs, PyData.strOk z = true) (hy : ∀ z ∈ ys, PyData.strOk z = true) : gEq neg [.l (xs.map .str), .l (ys.map .str)] s = .ok (.v (.bl (if neg then !decide (xs = ys) else decide (xs = ys)))) s := eq_strs rD_l rD_l hx hy
theorem eq_ii {i j : Int} : gEq neg [.v (.int i), .v (.int j)] s = .ok (.v (.bl (if neg then !(i == j) else i == j))) s := rfl
theorem eq_bb {i j : Bool} : gEq neg [.v (.bl i), .v (.bl j)] s = .ok (.v (.bl (if neg then !(i == j) else i == j))) s := rfl
theorem eq_ss {x y : Str} (hx : PyData.strOk x = true) (hy : PyData.strOk y = true) : gEq neg [.v (.str x), .v (.str y)] s = .ok (.v (.bl (if neg then !(x == y) else x == y))) s := by
  show (match SeqAt.shaped (.str x) && SeqAt.shaped (.str y) with | true => (Rs.ok (RV.v (.bl (if neg then !PyData.eqv (.str x) (.str y) else PyData.eqv (.str x) (.str y)))) s : Rs RV) | false => .bad) = _
  rw [shp_str hx, shp_str hy]
  simp only [Bool.and_self, PyData.eqv]
theorem in_strs {x : Str} {zs : List Str} (hx : PyData.strOk x = true) (hz : ∀ z ∈ zs, PyData.strOk z = true) : gIn neg [.v (.str x), .v (.tup (zs.map .str))] s = .ok (.v (.bl (if neg then !zs.any (fun z => z == x) else zs.any fun z => z == x))) s := by
  show (match rD s.hp (.v (.str x)), rD s.hp (.v (.tup (zs.map .str))) with | some d, some (.list ds) => _ | some d, some (.tuple ds) => (match SeqAt.shaped d && SeqAt.shaped (.tuple ds) with | true => (Rs.ok (RV.v (.bl (if neg then !ds.any (fun z => PyData.eqv z d) else ds.any fun z => PyData.eqv z d))) s : Rs RV) | false => .bad) | _, _ => .bad) = _
  have h1 : rD s.hp (.v (.str x)) = some (.str x) := rfl
  have h2 : rD s.hp (.v (.tup (zs.map .str))) = some (.tuple (zs.map .str)) := by
    show toD (.tup (zs.map .str)) = _
    rw [toD, toD_strs]
  rw [h1, h2]
  simp only [shp_str hx, (shp_strs hz).2, Bool.and_self, List.any_map, Function.comp_def, PyData.eqv]
/-! timetables -/
theorem s_tt {ts : List T3} (h : ∀ t ∈ ts, GT t) (hl : ts.length ≤ 1000) :
    ∃ b, f_is_timetable [.v (.tup (ts.map tr))] hp = .ok (.v (.bl b)) hp ∧ (Up (ts.map (·.1)) → b = true) := by
  obtain ⟨b, e1, e2⟩ := s_asc_s (hp := hp) (r := .l ((ts.map (·.1)).map .str)) (zs := ts.map (·.1)) (.inr rfl) (by rw [List.length_map]; exact hl)
  refine ⟨b, ?_, e2⟩
  rw [List.map_map] at e1
  have c1 : c_is_timetable_1 ⟨[some (.v (.tup (ts.map tr))), none], hp⟩ = .ok (.l (ts.map fun _ => .bl true)) ⟨[some (.v (.tup (ts.map tr))), none], hp⟩ :=
    lc_map (v0 := tr) (g := fun _ => .bl true) ts rfl rfl rfl (by omega) (fun t ht => ⟨⟨[some (.v (.tup (ts.map tr))), some (.v (tr t))], hp⟩, rfl, rfl, by
      have h' := s_laid (hp := hp) (h t ht)
      clear h e1 e2
      walk_at "py"⟩)
  have c2 : c_is_timetable_2 ⟨[some (.v (.tup (ts.map tr))), none], hp⟩ = .ok (.l (ts.map (IV.str ∘ (·.1)))) ⟨[some (.v (.tup (ts.map tr))), none], hp⟩ :=
    lc_map (v0 := tr) (g := IV.str ∘ (·.1)) ts rfl rfl rfl (by omega) (fun t ht => ⟨⟨[some (.v (.tup (ts.map tr))), some (.v (tr t))], hp⟩, rfl, rfl, by
      clear h e1 e2 c1
      unfold tr
      walk_at "py"
      rfl⟩)
  have t := @all_tt
  rw [v_is_timetable, u_is_timetable]
  clear h e2
  walk_at "py"
/-- the book b: its lessons' objects and names -/
def Bk (hp : List IO) (b : Nat) (l : List (Nat × Str)) : Prop := l.length ≤ 1000 ∧ (∀ q ∈ l, PyData.strOk q.2 = true) ∧ (∃ fs, hp[b]? = some (.ins "Book" fs) ∧ List.lookup ("lessons" : Str) fs = some (.tup (l.map fun q => .ref q.1))) ∧
  ∀ q ∈ l, ∃ fs, hp[q.1]? = some (.ins "Lesson" fs) ∧ List.lookup ("name" : Str) fs = some (.str q.2)
theorem d_bl : decide (("Book" : Str) ∈ (["Book"] : List Str)) = true := by decide +kernel
theorem d_ln : decide (("Lesson" : Str) ∈ (["Room", "Person", "Lesson"] : List Str)) = true := by decide +kernel
theorem cw_1 {ts : List T3} {b : Nat} (hl : ts.length ≤ 1000) : c_check_whole_1 ⟨[some (.v (.ref b)), some (.v (.tup (ts.map tr))), none, none, none, none], hp⟩ = .ok (.l ((ts.map (·.1)).map .str)) ⟨[some (.v (.ref b)), some (.v (.tup (ts.map tr))), none, none, none, none], hp⟩ := by
  rw [List.map_map]
  exact lc_map (v0 := tr) (g := IV.str ∘ (·.1)) ts rfl rfl rfl (by omega) (fun t ht => ⟨⟨[some (.v (.ref b)), some (.v (.tup (ts.map tr))), some (.v (.str t.1)), some (.v (.int t.2.1)), some (.v (.str t.2.2)), none], hp⟩, rfl, rfl, rfl⟩)
theorem its_ex {m : M RV} {vs : List IV} {s : S} (h : m s = .ok (.v (.tup vs)) s) : itS (.ex m) s = .ok (srcOf true (.inr (.v (.tup vs)))) s := by
  unfold itS
  rw [ev_ex, h]
  rfl
theorem cw_2 {l : List (Nat × Str)} {b : Nat} {x : IV} (k : Bk hp b l) : c_check_whole_2 ⟨[some (.v (.ref b)), some (.v x), none, none, none, none], hp⟩ = .ok (.l ((l.map (·.2)).map .str)) ⟨[some (.v (.ref b)), some (.v x), none, none, none, none], hp⟩ := by
  obtain ⟨hl, _, ⟨fs, h1, h2⟩, h3⟩ := k
  have d1 := d_bl
  have d2 := d_ln
  rw [List.map_map]
  refine lc_map (src := srcOf true (.inr (.v (.tup (l.map fun q => .ref q.1))))) (fun q : Nat × Str => .ref q.1) (IV.str ∘ fun q : Nat × Str => q.2) l ?_ rfl rfl (by omega) (fun q hq => ⟨⟨[some (.v (.ref b)), some (.v x), none, none, none, some (.v (.ref q.1))], hp⟩, rfl, rfl, ?_⟩)
  · refine its_ex ?_
    clear h3
    walk_at "py"
  · obtain ⟨fs', h4, h5⟩ := h3 q hq
    clear h3 h1 h2
    walk_at "py"
    rfl
section
variable {ts : List T3} {l : List (Nat × Str)} {b : Nat} {x : IV}
theorem cw_no (h : f_is_timetable [.v x] hp = .ok (.v (.bl false)) hp) : f_check_whole [.v (.ref b), .v x] hp = .exn "NoTimetable" [] hp := by
  rw [v_check_whole, u_check_whole]
  walk_at "py"
theorem cw_ne (k : Bk hp b l) (h : ∀ t ∈ ts, GT t) (hl : ts.length ≤ 1000) (hn : ts.map (·.1) ≠ l.map (·.2)) : f_check_whole [.v (.ref b), .v (.tup (ts.map tr))] hp = .exn "NoTimetable" [] hp := by
  obtain ⟨t, e, _⟩ := s_tt (hp := hp) h hl
  cases t with
  | false => exact cw_no e
  | true =>
    have c1 := cw_1 (hp := hp) (b := b) hl
    have c2 := cw_2 (x := .tup (ts.map tr)) k
    have c3 : ∀ s : S, gEq true [.l ((ts.map (·.1)).map .str), .l ((l.map (·.2)).map .str)] s = .ok (.v (.bl true)) s := fun s => by
      rw [eq_ll (by intro z hz; obtain ⟨t, h1, rfl⟩ := List.mem_map.mp hz; exact (h t h1).ok.n) (by intro z hz; obtain ⟨q, h1, rfl⟩ := List.mem_map.mp hz; exact k.2.1 q h1), decide_eq_false hn]
      rfl
    rw [v_check_whole, u_check_whole]
    clear k h hn
    walk_at "py"
theorem cw_ok (k : Bk hp b l) (h : ∀ t ∈ ts, GT t) (hl : ts.length ≤ 1000) (hn : ts.map (·.1) = l.map (·.2)) (up : Up (ts.map (·.1))) : f_check_whole [.v (.ref b), .v (.tup (ts.map tr))] hp = .ok (.v .non) hp := by
  obtain ⟨t, e, e2⟩ := s_tt (hp := hp) h hl
  obtain rfl := e2 up
  have c1 := cw_1 (hp := hp) (b := b) hl
  have c2 := cw_2 (x := .tup (ts.map tr)) k
  have c3 : ∀ s : S, gEq true [.l ((ts.map (·.1)).map .str), .l ((l.map (·.2)).map .str)] s = .ok (.v (.bl false)) s := fun s => by
    rw [eq_ll (by intro z hz; obtain ⟨t, h1, rfl⟩ := List.mem_map.mp hz; exact (h t h1).ok.n) (by intro z hz; obtain ⟨q, h1, rfl⟩ := List.mem_map.mp hz; exact k.2.1 q h1), decide_eq_true hn]
    rfl
  rw [v_check_whole, u_check_whole]
  clear k h hn up
  walk_at "py"
end
/-! gone_to, merged -/
def goI (o a b : T3) : IV := if (decide (a = b) || decide (b = o)) = true then tr a else if decide (a = o) = true then tr b else .non
theorem s_gone {o a b : T3} (ho : OkT o) (ha : OkT a) (hb : OkT b) : f_gone_to [.v (tr o), .v (tr a), .v (tr b)] hp = .ok (.v (goI o a b)) hp := by
  have e1 := @eq_tr
  have e : ∀ {neg : Bool} {t u : T3} {s : S}, OkT t → OkT u → gEq neg [.v (tr t), .v (tr u)] s = .ok (.v (.bl (if neg then !decide (t = u) else decide (t = u)))) s := eq_tr
  have a1 := fun s => eq_tr (neg := false) (s := s) ha hb
  have a2 := fun s => eq_tr (neg := false) (s := s) hb ho
  have a3 := fun s => eq_tr (neg := false) (s := s) ha ho
  rw [v_gone_to, u_gone_to, goI]
  clear e1 e ho ha hb
  cases q1 : decide (a = b) <;> cases q2 : decide (b = o) <;> cases q3 : decide (a = o) <;> rw [q1] at a1 <;> rw [q2] at a2 <;> rw [q3] at a3 <;> clear q1 q2 q3 <;> walk_at "py"
theorem z3_map {γ : Type} {f g h : γ → IV} : ∀ {l : List γ}, z3 (l.map f) (l.map g) (l.map h) = l.map fun x => .tup [f x, g x, h x]
  | [] => rfl
  | x :: l => by rw [List.map_cons, List.map_cons, List.map_cons, z3, z3_map]; rfl
theorem z2_map {γ : Type} {f g : γ → IV} : ∀ {l : List γ}, z2 (l.map f) (l.map g) = l.map fun x => .tup [f x, g x]
  | [] => rfl
  | x :: l => by rw [List.map_cons, List.map_cons, z2, z2_map]; rfl
/-- rows, told along one list -/
abbrev rw3 {γ : Type} (l : List γ) (p : γ → T3) : IV := .tup (l.map fun x => tr (p x))
section
variable {γ : Type} {l : List γ} {p q r : γ → T3} {b : Nat} {ns : List (Nat × Str)}
structure Rws (hp : List IO) (b : Nat) (l : List γ) (p : γ → T3) : Prop where
  g : ∀ x ∈ l, GT (p x)
  w : f_check_whole [.v (.ref b), .v (rw3 l p)] hp = .ok (.v .non) hp
  n : l.length ≤ 1000
theorem rws (k : Bk hp b ns) (hl : l.length ≤ 1000) (g : ∀ x ∈ l, GT (p x)) (hn : (l.map fun x => (p x).1) = ns.map (·.2)) (up : Up (ns.map (·.2))) : Rws hp b l p where
  g := g
  n := hl
  w := by
    have := cw_ok (ts := l.map p) k (by intro t h; obtain ⟨x, h1, rfl⟩ := List.mem_map.mp h; exact g x h1) (by rw [List.length_map]; exact hl) (by rw [List.map_map]; exact hn) (by rw [List.map_map]; exact (show Up (l.map fun x => (p x).1) by rw [hn]; exact up))
    rw [List.map_map] at this
    exact this
def clI (l : List γ) (p q r : γ → T3) : List γ := l.filter fun x => isNon (goI (p x) (q x) (r x))
def mgI (l : List γ) (p q r : γ → T3) : IV := if decide (0 < (clI l p q r).length) = true then .tup [.str "clash", .tup ((clI l p q r).map fun x => .str (p x).1)] else .tup [.str "merged", .tup (l.map fun x => goI (p x) (q x) (r x))]
theorem mg_1 {A B C : IV} (h1 : f_check_whole [.v (.ref b), .v A] hp = .ok (.v .non) hp) (h2 : f_check_whole [.v (.ref b), .v B] hp = .ok (.v .non) hp) (h3 : f_check_whole [.v (.ref b), .v C] hp = .ok (.v .non) hp) :
    c_merged_1 ⟨[some (.v (.ref b)), some (.v A), some (.v B), some (.v C), none, none, none, none, none, none, none, none], hp⟩ = .ok .nx ⟨[some (.v (.ref b)), some (.v A), some (.v B), some (.v C), some (.v C), none, none, none, none, none, none, none], hp⟩ := by
  unfold c_merged_1 d_merged_1
  rw [mFor_eq (vs := [A, B, C]) (its_ex (vs := [A, B, C]) (by walk_at "py")) rfl]
  show forL _ [A, B, C].length _ _ 3 _ = _
  rw [forL_step (x := A) (vs := [A, B, C]) rfl rfl rfl]
  have s1 : mDrop (mCall f_check_whole [(.nm 0), (.nm 4)]) ⟨[some (.v (.ref b)), some (.v A), some (.v B), some (.v C), some (.v A), none, none, none, none, none, none, none], hp⟩ = .ok .nx ⟨[some (.v (.ref b)), some (.v A), some (.v B), some (.v C), some (.v A), none, none, none, none, none, none, none], hp⟩ := by walk_at "py"
  rw [show mDrop (mCall f_check_whole [(.nm 0), (.nm 4)]) (S.mk (List.set [some (.v (.ref b)), some (.v A), some (.v B), some (.v C), none, none, none, none, none, none, none, none] 4 (some (.v A))) hp) = _ from s1, kFor1]
  rw [forL_step (x := B) (vs := [A, B, C]) rfl rfl rfl]
  have s2 : mDrop (mCall f_check_whole [(.nm 0), (.nm 4)]) ⟨[some (.v (.ref b)), some (.v A), some (.v B), some (.v C), some (.v B), none, none, none, none, none, none, none], hp⟩ = .ok .nx ⟨[some (.v (.ref b)), some (.v A), some (.v B), some (.v C), some (.v B), none, none, none, none, none, none, none], hp⟩ := by walk_at "py"
  rw [show mDrop (mCall f_check_whole [(.nm 0), (.nm 4)]) (S.mk (List.set [some (.v (.ref b)), some (.v A), some (.v B), some (.v C), some (.v A), none, none, none, none, none, none, none] 4 (some (.v B))) hp) = _ from s2, kFor1]
  rw [forL_step (x := C) (vs := [A, B, C]) rfl rfl rfl]
  have s3 : mDrop (mCall f_check_whole [(.nm 0), (.nm 4)]) ⟨[some (.v (.ref b)), some (.v A), some (.v B), some (.v C), some (.v C), none, none, none, none, none, none, none], hp⟩ = .ok .nx ⟨[some (.v (.ref b)), some (.v A), some (.v B), some (.v C), some (.v C), none, none, none, none, none, none, none], hp⟩ := by walk_at "py"
  rw [show mDrop (mCall f_check_whole [(.nm 0), (.nm 4)]) (S.mk (List.set [some (.v (.ref b)), some (.v A), some (.v B), some (.v C), some (.v B), none, none, none, none, none, none, none] 4 (some (.v C))) hp) = _ from s3, kFor1]
  exact forL_end rfl
theorem mg_2 {o : IV} (hl : l.length ≤ 1000) (hp' : ∀ x ∈ l, OkT (p x)) (hq : ∀ x ∈ l, OkT (q x)) (hr : ∀ x ∈ l, OkT (r x)) :
    c_merged_2 ⟨[some (.v (.ref b)), some (.v (rw3 l p)), some (.v (rw3 l q)), some (.v (rw3 l r)), some (.v o), none, none, none, none, none, none, none], hp⟩ = .ok (.l (l.map fun x => goI (p x) (q x) (r x))) ⟨[some (.v (.ref b)), some (.v (rw3 l p)), some (.v (rw3 l q)), some (.v (rw3 l r)), some (.v o), none, none, none, none, none, none, none], hp⟩ := by
  refine lc_map (v0 := fun x => .tup [tr (p x), tr (q x), tr (r x)]) (g := fun x => goI (p x) (q x) (r x)) l rfl ?_ rfl (by omega) (fun x h => ⟨⟨[some (.v (.ref b)), some (.v (rw3 l p)), some (.v (rw3 l q)), some (.v (rw3 l r)), some (.v o), none, none, some (.v (tr (p x))), some (.v (tr (q x))), some (.v (tr (r x))), none, none], hp⟩, rfl, rfl, ?_⟩)
  · show some (z3 (l.map fun x => tr (p x)) (l.map fun x => tr (q x)) (l.map fun x => tr (r x))) = _
    rw [z3_map]
  · have e := s_gone (hp := hp) (hp' x h) (hq x h) (hr x h)
    clear hp' hq hr
    walk_at "py"
theorem mg_3 {o : IV} (hl : l.length ≤ 1000) :
    c_merged_3 ⟨[some (.v (.ref b)), some (.v (rw3 l p)), some (.v (rw3 l q)), some (.v (rw3 l r)), some (.v o), some (.l (l.map fun x => goI (p x) (q x) (r x))), none, none, none, none, none, none], hp⟩ = .ok (.l ((clI l p q r).map fun x => .str (p x).1)) ⟨[some (.v (.ref b)), some (.v (rw3 l p)), some (.v (rw3 l q)), some (.v (rw3 l r)), some (.v o), some (.l (l.map fun x => goI (p x) (q x) (r x))), none, none, none, none, none, none], hp⟩ := by
  refine lc_pure (v0 := fun x => .tup [tr (p x), goI (p x) (q x) (r x)]) (cf := fun x => isNon (goI (p x) (q x) (r x))) (g := fun x => .str (p x).1) l rfl ?_ rfl (by omega) (fun x h => ⟨⟨[some (.v (.ref b)), some (.v (rw3 l p)), some (.v (rw3 l q)), some (.v (rw3 l r)), some (.v o), some (.l (l.map fun x => goI (p x) (q x) (r x))), none, none, none, none, some (.v (tr (p x))), some (.v (goI (p x) (q x) (r x)))], hp⟩, rfl, rfl, rfl, fun _ => ?_⟩)
  · show some (z2 (l.map fun x => tr (p x)) (l.map fun x => goI (p x) (q x) (r x))) = _
    rw [z2_map]
  · unfold tr
    walk_at "py"
theorem s_merged (h1 : Rws hp b l p) (h2 : Rws hp b l q) (h3 : Rws hp b l r) :
    f_merged [.v (.ref b), .v (rw3 l p), .v (rw3 l q), .v (rw3 l r)] hp = .ok (.v (mgI l p q r)) hp := by
  have m1 := mg_1 h1.w h2.w h3.w
  have m2 := mg_2 (hp := hp) (b := b) (o := rw3 l r) h1.n (fun x h => (h1.g x h).ok) (fun x h => (h2.g x h).ok) (fun x h => (h3.g x h).ok)
  have m3 := mg_3 (hp := hp) (b := b) (o := rw3 l r) (p := p) (q := q) (r := r) h1.n
  have hx : decide ((0 : Int) < (((clI l p q r).map fun x => IV.str (p x).1).length : Int)) = decide (0 < (clI l p q r).length) := by
    rw [List.length_map]
    exact decide_eq_decide.mpr (by omega)
  rw [v_merged, u_merged, mgI]
  clear h1 h2 h3
  cases q1 : decide (0 < (clI l p q r).length) with
  | true =>
    rw [q1] at hx
    clear q1
    simp only [List.length_map] at hx
    walk_at "py"
  | false =>
    rw [q1] at hx
    clear q1
    simp only [List.length_map] at hx
    walk_at "py"
/-! unlike_in -/
def unI (l : List γ) (q r : γ → T3) : List Str := (l.filter fun x => !decide (q x = r x)).map fun x => (q x).1
theorem s_unlike (h1 : Rws hp b l q) (h2 : Rws hp b l r) : f_unlike_in [.v (.ref b), .v (rw3 l q), .v (rw3 l r)] hp = .ok (.v (.tup ((unI l q r).map .str))) hp := by
  have w1 := h1.w
  have w2 := h2.w
  have e : c_unlike_in_1 ⟨[some (.v (.ref b)), some (.v (rw3 l q)), some (.v (rw3 l r)), none, none], hp⟩ = .ok (.l ((unI l q r).map .str)) ⟨[some (.v (.ref b)), some (.v (rw3 l q)), some (.v (rw3 l r)), none, none], hp⟩ := by
    unfold unI
    rw [List.map_map]
    refine lc_pure (v0 := fun x => .tup [tr (q x), tr (r x)]) (cf := fun x => !decide (q x = r x)) (g := IV.str ∘ fun x => (q x).1) l rfl ?_ rfl (by have := h1.n; omega) (fun x h => ⟨⟨[some (.v (.ref b)), some (.v (rw3 l q)), some (.v (rw3 l r)), some (.v (tr (q x))), some (.v (tr (r x)))], hp⟩, rfl, rfl, ?_, fun _ => ?_⟩)
    · show some (z2 (l.map fun x => tr (q x)) (l.map fun x => tr (r x))) = _
      rw [z2_map]
    · have a := fun s => eq_tr (neg := true) (s := s) (h1.g x h).ok (h2.g x h).ok
      clear h1 h2 w1 w2
      walk_at "py"
    · clear h1 h2 w1 w2
      unfold tr
      walk_at "py"
      rfl
  rw [v_unlike_in, u_unlike_in]
  clear h1 h2
  walk_at "py"
theorem s_law_unlike (h1 : ∀ x ∈ l, OkT (q x)) (h2 : ∀ x ∈ l, OkT (r x)) (hl : l.length ≤ 1000) : f_law_unlike [.v (rw3 l q), .v (rw3 l r)] hp = .ok (.v (.tup ((unI l q r).map .str))) hp := by
  have e : c_law_unlike_1 ⟨[some (.v (rw3 l q)), some (.v (rw3 l r)), none, none], hp⟩ = .ok (.l ((unI l q r).map .str)) ⟨[some (.v (rw3 l q)), some (.v (rw3 l r)), none, none], hp⟩ := by
    unfold unI
    rw [List.map_map]
    refine lc_pure (v0 := fun x => .tup [tr (q x), tr (r x)]) (cf := fun x => !decide (q x = r x)) (g := IV.str ∘ fun x => (q x).1) l rfl ?_ rfl (by omega) (fun x h => ⟨⟨[some (.v (rw3 l q)), some (.v (rw3 l r)), some (.v (tr (q x))), some (.v (tr (r x)))], hp⟩, rfl, rfl, ?_, fun _ => ?_⟩)
    · show some (z2 (l.map fun x => tr (q x)) (l.map fun x => tr (r x))) = _
      rw [z2_map]
    · have a := fun s => eq_tr (neg := true) (s := s) (h1 x h) (h2 x h)
      clear h1 h2
      walk_at "py"
    · clear h1 h2
      unfold tr
      walk_at "py"
      rfl
  rw [v_law_unlike, u_law_unlike]
  clear h1 h2
  walk_at "py"
end
end

end Py

set_option Elab.async false
set_option linter.all false
set_option maxRecDepth 100000
set_option maxHeartbeats 4000000
namespace Py
open PySem PySem.Spec PyProof.Rows L2
local macro_rules | `(tactic| walk_at "py") => `(tactic| simp only [ev_C, ev_tr, ev_Nx, ev_Rd, kRd1, ev_N, kN1, kN2, kG1, ev_L0, ev_L1, kL1a, kL1b, kL2a, kL2b, ev_nm, kNm1, ev_ex, kX1, kX2, kX3, ev_T, kT1, kT2, ev_B, kB1a, ev_And, ev_Or, ev_Not, kNot1, ev_If, ev_IfS, kIf1, kIf2, kIf3, ev_Seq, kSeq1, kSeq2, kSeq3, ev_Drop, kDrop1, kDrop2, ev_Set, kSet1, kSet2, ev_Ret, kRet1, kRet2, kRet3, ev_Par, ev_pL0, ev_pL1, kPut1, ev_put1, ev_put2, ev_Asg, kAsg1, kAs2a, ev_Box, kBox1, kBox2, ev_Call, ev_gCall, kCall1, kCall2, ev_Make, ev_gMake, kMk1, ev_Raise, ev_rdL0, ev_rdL1, kC1, ev_rdl, ev_rdr, ev_rdS, kR1, kR2, kR3, kR4, ev_sq1, ev_sq2, ev_sq3, ev_sq4, ev_I2, ev_I1, ev_Abs, ev_Int, ev_At, kAt1, kV1, ev_Len1, ev_Len2, ev_Len3, ev_Tuple, kTu1, ev_List, kLi1, ev_bx0, ev_bx1, ev_bx2, kB1b, ev_bv1, ev_Tup, ev_Lst, kTup_0, kLst_0, kTup_1, kLst_1, kTup_2, kLst_2, kTup_3, kLst_3, kTup_4, kLst_4, kTup_5, kLst_5, kTup_6, kLst_6, kTup_7, kLst_7, kApp1, kAp2a, ev_IsN, ev_IsT, ev_IsT2, kIs1, kIs2a, ev_ty1, ev_ty2, ev_ty3, ev_ty4, ev_ty5, ev_ty7, ev_ty8, ev_SlH, ev_SlL, fSl1, fSl2, fSl3, fSl4, ev_sN, atI_0, atI_1, atI_2, atI_3, atI_4, atI_5, kFor1, kFor2, fin1, fin2, fin3, fin4, ev_Ch, kCh1a, kCh2a, kCh3a, kCh4a, kCh5a, ev_I2c, ev_sq5, ev_ty6, ev_LenS, ev_Len4, ev_CatT, ev_CatL, kTup1, kLst1, kAp3a, ev_App, kAp0a, beq_self_eq_true, isL1, kSq1, kTy1, kTy2, kLe1, ev_Fl, kFl1, kFl2a, ev_SI, kSI1, kSI2a, ev_SF, kSF1, kSF2a, List.length_map, ev_All, List.getElem?_cons_zero, List.getElem?_cons_succ, List.set_cons_zero, List.set_cons_succ, Bool.not_true, Bool.not_false, isa, decide_true, decide_false, Bool.false_eq_true, if_true, if_false, setT, setNs, Option.map_some, isNon, Bool.or_true, Bool.or_false, Bool.true_or, Bool.false_or, ite_true, ite_false, *])
/-! Q4: due, law_is, three_right. -/
section
variable {hp : List IO} {γ : Type} {l : List γ} {p q r : γ → T3} {b : Nat}
def dueC (o a b : T3) : Bool := !decide (a = o) && (!decide (b = o) && !decide (a = b))
def dueF (o a b : T3) : IV := if decide (a = o) = true then tr b else tr a
def dueI (l : List γ) (p q r : γ → T3) : IV := if decide (0 < (l.filter fun x => dueC (p x) (q x) (r x)).length) = true then .tup [.str "clash", .tup ((l.filter fun x => dueC (p x) (q x) (r x)).map fun x => .str (p x).1)] else .tup [.str "merged", .tup (l.map fun x => dueF (p x) (q x) (r x))]
theorem due_body {A B C : IV} {F N : List IV} {o a b : T3} (hF : F.length < 100000) (hN : N.length < 100000) (ho : OkT o) (ha : OkT a) (hb : OkT b) :
    d_law_due_1 ⟨[some (.v A), some (.v B), some (.v C), some (.l F), some (.l N), some (.v (tr o)), some (.v (tr a)), some (.v (tr b))], hp⟩ =
      .ok .nx ⟨[some (.v A), some (.v B), some (.v C), some (.l (F ++ [dueF o a b])), some (.l (if dueC o a b = true then N ++ [.str o.1] else N)), some (.v (tr o)), some (.v (tr a)), some (.v (tr b))], hp⟩ := by
  have a1 := fun s => eq_tr (neg := true) (s := s) ha ho
  have a2 := fun s => eq_tr (neg := true) (s := s) hb ho
  have a3 := fun s => eq_tr (neg := true) (s := s) ha hb
  have a4 := fun s => eq_tr (neg := false) (s := s) ha ho
  have a5 : seqOf ⟨[some (.v A), some (.v B), some (.v C), some (.l F), some (.l N), some (.v (tr o)), some (.v (tr a)), some (.v (tr b))], hp⟩ (.v (tr o)) = some [.str o.1, .int o.2.1, .str o.2.2] := rfl
  unfold d_law_due_1 dueF dueC
  clear ho ha hb
  cases q1 : decide (a = o) <;> cases q2 : decide (b = o) <;> cases q3 : decide (a = b) <;> rw [q1] at a1 a4 <;> rw [q2] at a2 <;> rw [q3] at a3 <;> clear q1 q2 q3 <;> (try simp only [Bool.not_true, Bool.not_false, Bool.and_true, Bool.and_false, Bool.and_self, Bool.false_eq_true, if_true, if_false]) <;> walk_at "py"
theorem s_due (hp' : ∀ x ∈ l, OkT (p x)) (hq : ∀ x ∈ l, OkT (q x)) (hr : ∀ x ∈ l, OkT (r x)) (hl : l.length ≤ 1000) :
    f_law_due [.v (rw3 l p), .v (rw3 l q), .v (rw3 l r)] hp = .ok (.v (dueI l p q r)) hp := by
  obtain ⟨s', e, a, b, c, hs⟩ : ∃ s', c_law_due_1 ⟨[some (.v (rw3 l p)), some (.v (rw3 l q)), some (.v (rw3 l r)), some (.l []), some (.l []), none, none, none], hp⟩ = .ok .nx s' ∧
      ∃ a b c, s' = ⟨[some (.v (rw3 l p)), some (.v (rw3 l q)), some (.v (rw3 l r)), some (.l ((l.take (l.map fun x => IV.tup [tr (p x), tr (q x), tr (r x)]).length).map fun x => dueF (p x) (q x) (r x))), some (.l (((l.take (l.map fun x => IV.tup [tr (p x), tr (q x), tr (r x)]).length).filter fun x => dueC (p x) (q x) (r x)).map fun x => .str (p x).1)), a, b, c], hp⟩ := by
    refine for_inv (src := srcZ3 (srcOf true (.inr (.v (rw3 l p)))) (srcOf true (.inr (.v (rw3 l q)))) (srcOf true (.inr (.v (rw3 l r))))) (vs := l.map fun x => IV.tup [tr (p x), tr (q x), tr (r x)])
      (fun k s' => ∃ a b c, s' = ⟨[some (.v (rw3 l p)), some (.v (rw3 l q)), some (.v (rw3 l r)), some (.l ((l.take k).map fun x => dueF (p x) (q x) (r x))), some (.l (((l.take k).filter fun x => dueC (p x) (q x) (r x)).map fun x => .str (p x).1)), a, b, c], hp⟩) rfl ⟨none, none, none, rfl⟩ ?_ ?_
    · rintro k s ⟨a, b, c, rfl⟩
      show some (z3 (l.map fun x => tr (p x)) (l.map fun x => tr (q x)) (l.map fun x => tr (r x))) = _
      rw [z3_map]
    · rintro k x s hx ⟨a, b, c, rfl⟩
      rw [List.getElem?_map] at hx
      obtain ⟨y, hy, rfl⟩ := Option.map_eq_some_iff.mp hx
      have hm : y ∈ l := List.mem_of_getElem? hy
      have hF : ((l.take k).map fun x => dueF (p x) (q x) (r x)).length < 100000 := by
        rw [List.length_map, List.length_take]
        omega
      have hN : (((l.take k).filter fun x => dueC (p x) (q x) (r x)).map fun x => IV.str (p x).1).length < 100000 := by
        rw [List.length_map]
        have := List.length_filter_le (fun x => dueC (p x) (q x) (r x)) (l.take k)
        rw [List.length_take] at this
        omega
      refine ⟨_, _, rfl, due_body hF hN (hp' y hm) (hq y hm) (hr y hm), some (.v (tr (p y))), some (.v (tr (q y))), some (.v (tr (r y))), ?_⟩
      rw [List.take_succ, hy]
      simp only [Option.toList, List.map_append, List.map_cons, List.map_nil, List.filter_append, List.filter_cons, List.filter_nil]
      cases dueC (p y) (q y) (r y) with
      | true => rfl
      | false =>
        simp only [Bool.false_eq_true, if_false, List.map_nil, List.append_nil]
  rw [List.length_map, List.take_length] at hs
  subst hs
  have hx : decide ((0 : Int) < ((l.filter fun x => dueC (p x) (q x) (r x)).length : Int)) = decide (0 < (l.filter fun x => dueC (p x) (q x) (r x)).length) := decide_eq_decide.mpr (by omega)
  rw [v_law_due, u_law_due, dueI]
  clear hp' hq hr
  cases q1 : decide (0 < (l.filter fun x => dueC (p x) (q x) (r x)).length) with
  | true =>
    rw [q1] at hx
    clear q1
    walk_at "py"
  | false =>
    rw [q1] at hx
    clear q1
    walk_at "py"
theorem non_goI {o a b : T3} : isNon (goI o a b) = dueC o a b := by
  unfold goI dueC
  cases q1 : decide (a = o) <;> cases q2 : decide (b = o) <;> cases q3 : decide (a = b) <;> rfl
theorem goI_due {o a b : T3} (h : dueC o a b = false) : goI o a b = dueF o a b := by
  unfold goI dueF
  unfold dueC at h
  by_cases q1 : a = o
  · subst q1
    by_cases q3 : a = b
    · subst q3
      simp only [decide_true, Bool.true_or, if_true]
    · by_cases q4 : b = a
      · exact absurd q4.symm q3
      · simp only [decide_eq_false q3, decide_eq_false q4, Bool.or_self, Bool.false_eq_true, if_false, decide_true, if_true]
  · by_cases q2 : b = o
    · subst q2
      simp only [decide_true, Bool.or_true, if_true, decide_eq_false q1, Bool.false_eq_true, if_false]
    · by_cases q3 : a = b
      · subst q3
        simp only [decide_true, Bool.true_or, if_true, decide_eq_false q1, Bool.false_eq_true, if_false]
      · simp only [decide_eq_false q1, decide_eq_false q2, decide_eq_false q3, Bool.not_false, Bool.and_self] at h
        cases h
theorem nil_filter {f : γ → Bool} (h : ¬ 0 < (l.filter f).length) : ∀ x ∈ l, f x = false := by
  have h1 : l.filter f = [] := List.length_eq_zero_iff.mp (by omega)
  intro x hx
  have := List.filter_eq_nil_iff.mp h1 x hx
  simpa using this
theorem due_mg : mgI l p q r = dueI l p q r := by
  unfold mgI dueI clI
  simp only [non_goI]
  by_cases h : 0 < (l.filter fun x => dueC (p x) (q x) (r x)).length
  · rw [if_pos (decide_eq_true h), if_pos (decide_eq_true h)]
  · rw [if_neg (by rw [decide_eq_false h]; exact Bool.false_ne_true), if_neg (by rw [decide_eq_false h]; exact Bool.false_ne_true)]
    congr 3
    exact congrArg IV.tup (List.map_congr_left fun x hx => goI_due (nil_filter h x hx))
theorem dueC_swap {o a b : T3} : dueC o a b = dueC o b a := by
  unfold dueC
  rw [show decide (b = a) = decide (a = b) from decide_eq_decide.mpr ⟨Eq.symm, Eq.symm⟩]
  cases decide (a = o) <;> cases decide (b = o) <;> cases decide (a = b) <;> rfl
theorem dueF_swap {o a b : T3} (h : dueC o a b = false) : dueF o a b = dueF o b a := by
  unfold dueF
  unfold dueC at h
  by_cases q1 : a = o
  · by_cases q2 : b = o
    · rw [q1, q2]
    · rw [if_pos (decide_eq_true q1), if_neg (by rw [decide_eq_false q2]; exact Bool.false_ne_true)]
  · by_cases q2 : b = o
    · rw [if_neg (by rw [decide_eq_false q1]; exact Bool.false_ne_true), if_pos (decide_eq_true q2)]
    · by_cases q3 : a = b
      · rw [q3]
      · rw [decide_eq_false q1, decide_eq_false q2, decide_eq_false q3] at h
        cases h
theorem due_swap : dueI l p q r = dueI l p r q := by
  unfold dueI
  simp only [show (fun x => dueC (p x) (r x) (q x)) = fun x => dueC (p x) (q x) (r x) from funext fun x => dueC_swap]
  by_cases h : 0 < (l.filter fun x => dueC (p x) (q x) (r x)).length
  · rw [if_pos (decide_eq_true h), if_pos (decide_eq_true h)]
  · rw [if_neg (by rw [decide_eq_false h]; exact Bool.false_ne_true), if_neg (by rw [decide_eq_false h]; exact Bool.false_ne_true)]
    congr 3
    exact congrArg IV.tup (List.map_congr_left fun x hx => dueF_swap (nil_filter h x hx))
/-- merged without a clash -/
theorem mg_none {t : γ → T3} (h1 : ∀ x ∈ l, goI (p x) (q x) (r x) = tr (t x)) : mgI l p q r = .tup [.str "merged", rw3 l t] := by
  unfold mgI
  have h : clI l p q r = [] := List.filter_eq_nil_iff.mpr fun x hx => by
    rw [h1 x hx]
    exact Bool.false_ne_true
  rw [h, if_neg (by exact Bool.false_ne_true)]
  congr 3
  exact congrArg IV.tup (List.map_congr_left h1)
theorem mg_pp : mgI l p p r = .tup [.str "merged", rw3 l r] := mg_none fun x _ => by
  unfold goI
  simp only [decide_true, if_true]
  by_cases h : p x = r x
  · rw [h]
    simp only [decide_true, Bool.true_or, if_true]
  · split
    · rename_i h1
      simp only [Bool.or_eq_true, decide_eq_true_eq] at h1
      rcases h1 with h1 | h1
      · exact absurd h1 h
      · exact absurd h1.symm h
    · rfl
theorem mg_qq : mgI l p q q = .tup [.str "merged", rw3 l q] := mg_none fun x _ => by
  unfold goI
  simp only [decide_true, Bool.true_or, if_true]
theorem mg_back {t : γ → T3} : mgI l q t q = .tup [.str "merged", rw3 l t] := mg_none fun x _ => by
  unfold goI
  simp only [decide_true, Bool.or_true, if_true]
/-! the same through and through -/
inductive Dn : Nat → IV → Prop where
  | int {n : Nat} {i : Int} : Dn n (.int i)
  | str {n : Nat} {z : Str} (h : PyData.strOk z = true) : Dn n (.str z)
  | tup {n : Nat} {vs : List IV} (h : ∀ y ∈ vs, Dn n y) (hl : vs.length ≤ 1000) : Dn (n + 1) (.tup vs)
theorem is1 : isa .int .tuple = false := rfl
theorem is2 : isa .int .list = false := rfl
theorem is3 : isa .int .bool = false := rfl
theorem is4 : isa .str .tuple = false := rfl
theorem is5 : isa .str .list = false := rfl
theorem is6 : isa .str .bool = false := rfl
theorem is7 : isa .str .int = false := rfl
theorem is8 : isa .tuple .list = false := rfl
theorem is9 : isa .list .tuple = false := rfl
theorem z2_self : ∀ {vs : List IV}, z2 vs vs = vs.map fun x => .tup [x, x]
  | [] => rfl
  | x :: l => by rw [z2, z2_self]; rfl
theorem s_is_seq {n : Nat} {r1 r2 : RV} {vs : List IV} (hr : (r1 = .v (.tup vs) ∧ r2 = .v (.tup vs)) ∨ ((r1 = .l vs ∨ r1 = .f vs) ∧ r2 = .l vs)) (hl : vs.length ≤ 1000)
    (h : ∀ y ∈ vs, f_law_is n [.v y, .v y] hp = .ok (.v (.bl true)) hp) : f_law_is (n + 1) [r1, r2] hp = .ok (.v (.bl true)) hp := by
  have b1 := fun s => eq_bb (s := s) (neg := true) (i := true) (j := true)
  have b2 := fun s => eq_bb (s := s) (neg := true) (i := false) (j := false)
  have b3 := fun s => eq_ii (s := s) (neg := false) (i := vs.length) (j := vs.length)
  have b4 : ((vs.length : Int) == (vs.length : Int)) = true := beq_self_eq_true _
  have t := @all_tt
  have c (ho : own0 [2, 3] ⟨[some r1, some r2, none, none], hp⟩ = true) (hz : itZ2 (.nm 0) (.nm 1) ⟨[some r1, some r2, none, none], hp⟩ = .ok (fun s => (srcZ2 (srcOf (kindOf (.inl 0) ⟨[some r1, some r2, none, none], hp⟩) (.inl 0)) (srcOf (kindOf (.inl 1) ⟨[some r1, some r2, none, none], hp⟩) (.inl 1))) s) ⟨[some r1, some r2, none, none], hp⟩)
      (hs : (srcZ2 (srcOf (kindOf (.inl 0) ⟨[some r1, some r2, none, none], hp⟩) (.inl 0)) (srcOf (kindOf (.inl 1) ⟨[some r1, some r2, none, none], hp⟩) (.inl 1))) ⟨[some r1, some r2, none, none], hp⟩ = some (z2 vs vs)) : c_law_is_1 (f_law_is n) ⟨[some r1, some r2, none, none], hp⟩ = .ok (.l (vs.map fun _ => .bl true)) ⟨[some r1, some r2, none, none], hp⟩ := by
    refine lc_map (v0 := fun x => .tup [x, x]) (g := fun _ => .bl true) vs hz (by rw [← z2_self]; exact hs) ho (by omega) (fun x hx => ⟨⟨[some r1, some r2, some (.v x), some (.v x)], hp⟩, rfl, rfl, ?_⟩)
    have e := h x hx
    clear h b1 b2 b3 b4
    walk_at "py"
  rw [v_law_is, u_law_is]
  clear h
  rcases hr with ⟨rfl, rfl⟩ | ⟨rfl | rfl, rfl⟩
  · have c' := c rfl rfl rfl
    clear c
    walk_at "py"
  · have c' := c rfl rfl rfl
    clear c
    walk_at "py"
  · have c' := c rfl rfl rfl
    clear c
    walk_at "py"
theorem s_is : ∀ (n : Nat) (x : IV), Dn n x → f_law_is (n + 1) [.v x, .v x] hp = .ok (.v (.bl true)) hp := by
  intro n
  induction n with
  | zero =>
    intro x d
    cases d with
    | int => 
      rename_i i
      have b1 := fun s => eq_bb (s := s) (neg := true) (i := true) (j := true)
      have b2 := fun s => eq_bb (s := s) (neg := true) (i := false) (j := false)
      have b3 := fun s => eq_ii (s := s) (neg := false) (i := i) (j := i)
      have b4 : (i == i) = true := beq_self_eq_true _
      rw [v_law_is, u_law_is]
      walk_at "py"
    | str h => 
      rename_i z
      have b2 := fun s => eq_bb (s := s) (neg := true) (i := false) (j := false)
      have b3 := fun s => eq_ss (s := s) (neg := false) h h
      have b4 : (z == z) = true := beq_self_eq_true _
      rw [v_law_is, u_law_is]
      clear h
      walk_at "py"
  | succ n ih =>
    intro x d
    cases d with
    | int => 
      rename_i i
      have b1 := fun s => eq_bb (s := s) (neg := true) (i := true) (j := true)
      have b2 := fun s => eq_bb (s := s) (neg := true) (i := false) (j := false)
      have b3 := fun s => eq_ii (s := s) (neg := false) (i := i) (j := i)
      have b4 : (i == i) = true := beq_self_eq_true _
      rw [v_law_is, u_law_is]
      clear ih
      walk_at "py"
    | str h => 
      rename_i z
      have b2 := fun s => eq_bb (s := s) (neg := true) (i := false) (j := false)
      have b3 := fun s => eq_ss (s := s) (neg := false) h h
      have b4 : (z == z) = true := beq_self_eq_true _
      rw [v_law_is, u_law_is]
      clear h ih
      walk_at "py"
    | tup h hl => exact s_is_seq (.inl ⟨rfl, rfl⟩) hl fun y hy => ih y (h y hy)
end

end Py

set_option Elab.async false
set_option linter.all false
set_option maxRecDepth 100000
set_option maxHeartbeats 4000000
namespace Py
open PySem PySem.Spec PyProof.Rows L2
local macro_rules | `(tactic| walk_at "py") => `(tactic| simp only [ev_C, ev_tr, ev_Nx, ev_Rd, kRd1, ev_N, kN1, kN2, kG1, ev_L0, ev_L1, kL1a, kL1b, kL2a, kL2b, ev_nm, kNm1, ev_ex, kX1, kX2, kX3, ev_T, kT1, kT2, ev_B, kB1a, ev_And, ev_Or, ev_Not, kNot1, ev_If, ev_IfS, kIf1, kIf2, kIf3, ev_Seq, kSeq1, kSeq2, kSeq3, ev_Drop, kDrop1, kDrop2, ev_Set, kSet1, kSet2, ev_Ret, kRet1, kRet2, kRet3, ev_Par, ev_pL0, ev_pL1, kPut1, ev_put1, ev_put2, ev_Asg, kAsg1, kAs2a, ev_Box, kBox1, kBox2, ev_Call, ev_gCall, kCall1, kCall2, ev_Make, ev_gMake, kMk1, ev_Raise, ev_rdL0, ev_rdL1, kC1, ev_rdl, ev_rdr, ev_rdS, kR1, kR2, kR3, kR4, ev_sq1, ev_sq2, ev_sq3, ev_sq4, ev_I2, ev_I1, ev_Abs, ev_Int, ev_At, kAt1, kV1, ev_Len1, ev_Len2, ev_Len3, ev_Tuple, kTu1, ev_List, kLi1, ev_bx0, ev_bx1, ev_bx2, kB1b, ev_bv1, ev_Tup, ev_Lst, kTup_0, kLst_0, kTup_1, kLst_1, kTup_2, kLst_2, kTup_3, kLst_3, kTup_4, kLst_4, kTup_5, kLst_5, kTup_6, kLst_6, kTup_7, kLst_7, kApp1, kAp2a, ev_IsN, ev_IsT, ev_IsT2, kIs1, kIs2a, ev_ty1, ev_ty2, ev_ty3, ev_ty4, ev_ty5, ev_ty7, ev_ty8, ev_SlH, ev_SlL, fSl1, fSl2, fSl3, fSl4, ev_sN, atI_0, atI_1, atI_2, atI_3, atI_4, atI_5, kFor1, kFor2, fin1, fin2, fin3, fin4, ev_Ch, kCh1a, kCh2a, kCh3a, kCh4a, kCh5a, ev_I2c, ev_sq5, ev_ty6, ev_LenS, ev_Len4, ev_CatT, ev_CatL, kTup1, kLst1, kAp3a, ev_App, kAp0a, beq_self_eq_true, isL1, kSq1, kTy1, kTy2, kLe1, ev_Fl, kFl1, kFl2a, ev_SI, kSI1, kSI2a, ev_SF, kSF1, kSF2a, List.length_map, ev_All, List.getElem?_cons_zero, List.getElem?_cons_succ, List.set_cons_zero, List.set_cons_succ, Bool.not_true, Bool.not_false, isa, decide_true, decide_false, Bool.false_eq_true, if_true, if_false, setT, setNs, Option.map_some, isNon, Bool.or_true, Bool.or_false, Bool.true_or, Bool.false_or, ite_true, ite_false, *])
/-! Q5: three_right. -/
section
variable {hp : List IO} {γ : Type} {l : List γ} {p q r t : γ → T3} {b n : Nat} {ns : List (Nat × Str)} {x : IV}
theorem oks_merged : PyData.strOk "merged" = true := by decide +kernel
theorem oks_clash : PyData.strOk "clash" = true := by decide +kernel
theorem ne_mc : (("merged" : Str) == ("clash" : Str)) = false := by decide +kernel
theorem Dn.tr {t : T3} (h : OkT t) : Dn (n + 1) (tr t) := by
  refine .tup (fun y hy => ?_) (Nat.le_of_ble_eq_true rfl)
  simp only [List.mem_cons, List.not_mem_nil, or_false] at hy
  rcases hy with rfl | rfl | rfl
  · exact .str h.n
  · exact .int
  · exact .str h.r
theorem Dn.rows (h : ∀ x ∈ l, OkT (p x)) (hl : l.length ≤ 1000) : Dn (n + 2) (rw3 l p) := by
  refine .tup (fun y hy => ?_) (by rw [List.length_map]; exact hl)
  obtain ⟨x, hx, rfl⟩ := List.mem_map.mp hy
  exact .tr (h x hx)
theorem Dn.strs {zs : List Str} (h : ∀ z ∈ zs, PyData.strOk z = true) (hl : zs.length ≤ 1000) : Dn (n + 1) (.tup (zs.map .str)) := by
  refine .tup (fun y hy => ?_) (by rw [List.length_map]; exact hl)
  obtain ⟨x, hx, rfl⟩ := List.mem_map.mp hy
  exact .str (h x hx)
theorem Dn.pair {z : Str} (h : PyData.strOk z = true) (d : Dn n x) : Dn (n + 1) (.tup [.str z, x]) := by
  refine .tup (fun y hy => ?_) (Nat.le_of_ble_eq_true rfl)
  simp only [List.mem_cons, List.not_mem_nil, or_false] at hy
  rcases hy with rfl | rfl
  · exact .str h
  · exact d
theorem is_two {r1 r2 : RV} {a c : IV} (hr : (r1 = .l [a, c] ∨ r1 = .f [a, c]) ∧ r2 = .l [a, c]) (ha : Dn 3 a) (hc : Dn 3 c) : f_law_is 5 [r1, r2] hp = .ok (.v (.bl true)) hp := by
  refine s_is_seq (.inr hr) (Nat.le_of_ble_eq_true rfl) fun y hy => ?_
  simp only [List.mem_cons, List.not_mem_nil, or_false] at hy
  rcases hy with rfl | rfl
  · exact s_is 3 _ ha
  · exact s_is 3 _ hc
theorem un_len : (unI l q r).length ≤ l.length := by
  unfold unI
  rw [List.length_map]
  exact List.length_filter_le _ _
theorem un_swap (h : ∀ x ∈ l, (q x).1 = (r x).1) : unI l r q = unI l q r := by
  unfold unI
  rw [show (fun x => !decide (r x = q x)) = fun x => !decide (q x = r x) from funext fun x => by rw [show decide (r x = q x) = decide (q x = r x) from decide_eq_decide.mpr ⟨Eq.symm, Eq.symm⟩]]
  exact List.map_congr_left fun x hx => (h x (List.mem_filter.mp hx).1).symm
theorem mem_un {z : Str} : z ∈ unI l q r ↔ ∃ x ∈ l, q x ≠ r x ∧ (q x).1 = z := by
  unfold unI
  simp only [List.mem_map, List.mem_filter, Bool.not_eq_true', decide_eq_false_iff_not, and_assoc, ne_eq]
theorem un_up (up : Up (l.map fun x => (q x).1)) : Up (unI l q r) := by
  unfold unI
  exact List.Pairwise.sublist (List.Sublist.map _ List.filter_sublist) up
def tolI (p q r : γ → T3) (x : γ) : T3 := if decide (q x = p x) = true then r x else q x
theorem tol_tr {x : γ} : dueF (p x) (q x) (r x) = tr (tolI p q r x) := by
  unfold dueF tolI
  split <;> rfl
theorem un_sort (up : Up (l.map fun x => (p x).1)) : sortU (unI l p q ++ unI l p r) = unI l p (tolI p q r) := by
  refine up_uniq up_sortU (un_up up) fun z => ?_
  rw [mem_sortU, List.mem_append, mem_un, mem_un, mem_un]
  constructor
  · rintro (⟨x, hx, h1, h2⟩ | ⟨x, hx, h1, h2⟩)
    · refine ⟨x, hx, ?_, h2⟩
      unfold tolI
      rw [if_neg (by rw [decide_eq_false fun h => h1 h.symm]; exact Bool.false_ne_true)]
      exact h1
    · refine ⟨x, hx, ?_, h2⟩
      unfold tolI
      by_cases h3 : q x = p x
      · rw [if_pos (decide_eq_true h3)]
        exact h1
      · rw [if_neg (by rw [decide_eq_false h3]; exact Bool.false_ne_true)]
        exact fun h => h3 h.symm
  · rintro ⟨x, hx, h1, h2⟩
    unfold tolI at h1
    by_cases h3 : q x = p x
    · rw [if_pos (decide_eq_true h3)] at h1
      exact .inr ⟨x, hx, h1, h2⟩
    · exact .inl ⟨x, hx, fun h => h3 h.symm, h2⟩
theorem ev_Sort {A B : List Str} {s : S} (h : (A ++ B).length < 60) : gSortSet [.v (.tup (A.map .str ++ B.map .str))] s = .ok (.l ((sortU (A ++ B)).map .str)) s := by
  have h1 : ∀ zs : List Str, strsI (zs.map .str) = some zs := by
    intro zs
    induction zs with
    | nil => rw [List.map_nil, strsI]
    | cons z zs ih => rw [List.map_cons, strsI, ih]
  rw [← List.map_append]
  unfold gSortSet
  simp only [ev_sq1, h1, decide_eq_true h, if_true]
theorem tr_1 {A B C : List Str} {nm : Str} {e0 e1 e2 e3 e4 e5 e7 : Option RV} (hA : ∀ z ∈ A, PyData.strOk z = true) (hB : ∀ z ∈ B, PyData.strOk z = true) (hC : ∀ z ∈ C, PyData.strOk z = true) (hn : PyData.strOk nm = true) :
    c_law_three_right_1 ⟨[e0, e1, e2, e3, e4, e5, some (.l [.tup (A.map .str), .tup (B.map .str), .tup (C.map .str)]), e7, some (.v (.str nm)), none], hp⟩ =
      .ok (.l ([A, B, C].map fun zs => .bl (zs.any fun z => z == nm))) ⟨[e0, e1, e2, e3, e4, e5, some (.l [.tup (A.map .str), .tup (B.map .str), .tup (C.map .str)]), e7, some (.v (.str nm)), none], hp⟩ := by
  refine lc_map (src := srcOf false (.inl 6)) (fun zs : List Str => .tup (zs.map .str)) (fun zs : List Str => .bl (zs.any fun z => z == nm)) [A, B, C] rfl rfl rfl (Nat.le_of_ble_eq_true rfl) (fun zs h => ⟨⟨[e0, e1, e2, e3, e4, e5, some (.l [.tup (A.map .str), .tup (B.map .str), .tup (C.map .str)]), e7, some (.v (.str nm)), some (.v (.tup (zs.map .str)))], hp⟩, rfl, rfl, ?_⟩)
  have hz : ∀ z ∈ zs, PyData.strOk z = true := by
    simp only [List.mem_cons, List.not_mem_nil, or_false] at h
    rcases h with rfl | rfl | rfl
    · exact hA
    · exact hB
    · exact hC
  have e := fun s => in_strs (neg := false) (s := s) hn hz
  clear hA hB hC hn hz h
  walk_at "py"
theorem tr_2 {A B C cl : List Str} {w : Str} {e0 e1 e2 e3 e5 e7 : Option RV} (hA : ∀ z ∈ A, PyData.strOk z = true) (hB : ∀ z ∈ B, PyData.strOk z = true) (hC : ∀ z ∈ C, PyData.strOk z = true)
    (h : ∀ z ∈ cl, z ∈ A ∧ z ∈ B ∧ z ∈ C) (hl : cl.length ≤ 1000) :
    c_law_three_right_2 ⟨[e0, e1, e2, e3, some (.v (.tup [.str w, .tup (cl.map .str)])), e5, some (.l [.tup (A.map .str), .tup (B.map .str), .tup (C.map .str)]), e7, none, none], hp⟩ =
      .ok (.l (cl.map fun _ => .bl true)) ⟨[e0, e1, e2, e3, some (.v (.tup [.str w, .tup (cl.map .str)])), e5, some (.l [.tup (A.map .str), .tup (B.map .str), .tup (C.map .str)]), e7, none, none], hp⟩ := by
  refine lc_map (src := srcOf true (.inr (.v (.tup (cl.map .str))))) (fun z : Str => .str z) (fun _ : Str => .bl true) cl ?_ rfl rfl (by omega) (fun nm hm => ⟨⟨[e0, e1, e2, e3, some (.v (.tup [.str w, .tup (cl.map .str)])), e5, some (.l [.tup (A.map .str), .tup (B.map .str), .tup (C.map .str)]), e7, some (.v (.str nm)), none], hp⟩, rfl, rfl, ?_⟩)
  · refine its_ex ?_
    clear hA hB hC h
    walk_at "py"
  · obtain ⟨h1, h2, h3⟩ := h nm hm
    have e := tr_1 (hp := hp) (e0 := e0) (e1 := e1) (e2 := e2) (e3 := e3) (e4 := some (.v (.tup [.str w, .tup (cl.map .str)]))) (e5 := e5) (e7 := e7) hA hB hC (hA nm h1)
    have g : ([A, B, C].all fun zs => zs.any fun z => z == nm) = true := by
      simp only [List.all_cons, List.all_nil, Bool.and_true, Bool.and_eq_true, List.any_eq_true]
      exact ⟨⟨nm, h1, beq_self_eq_true _⟩, ⟨nm, h2, beq_self_eq_true _⟩, ⟨nm, h3, beq_self_eq_true _⟩⟩
    have g' : ∀ s : S, gAll [.l ([A, B, C].map fun zs => .bl (zs.any fun z => z == nm))] s = .ok (.v (.bl true)) s := fun s => by rw [ev_All, g]
    clear hA hB hC h h1 h2 h3 g
    walk_at "py"
theorem s_three (k : Bk hp b ns) (hl : l.length ≤ 20) (gp : ∀ x ∈ l, GT (p x)) (gq : ∀ x ∈ l, GT (q x)) (gr : ∀ x ∈ l, GT (r x))
    (np : (l.map fun x => (p x).1) = ns.map (·.2)) (nq : (l.map fun x => (q x).1) = ns.map (·.2)) (nr : (l.map fun x => (r x).1) = ns.map (·.2)) (up : Up (ns.map (·.2))) :
    f_law_three_right [.v (.ref b), .v (rw3 l p), .v (rw3 l q), .v (rw3 l r)] hp = .ok (.v (.bl true)) hp := by
  have hl' : l.length ≤ 1000 := by omega
  have wp := rws k hl' gp np up
  have wq := rws k hl' gq nq up
  have wr := rws k hl' gr nr up
  have ep : ∀ x ∈ l, (p x).1 = (q x).1 := List.map_inj_left.mp (np.trans nq.symm)
  have er : ∀ x ∈ l, (q x).1 = (r x).1 := List.map_inj_left.mp (nq.trans nr.symm)
  have op : ∀ x ∈ l, OkT (p x) := fun x h => (gp x h).ok
  have oq : ∀ x ∈ l, OkT (q x) := fun x h => (gq x h).ok
  have or' : ∀ x ∈ l, OkT (r x) := fun x h => (gr x h).ok
  have gt : ∀ x ∈ l, GT (tolI p q r x) := fun x h => by
    unfold tolI
    split
    · exact gr x h
    · exact gq x h
  have nt : (l.map fun x => (tolI p q r x).1) = ns.map (·.2) := by
    rw [← nq]
    refine List.map_congr_left fun x h => ?_
    unfold tolI
    split
    · exact (er x h).symm
    · rfl
  have wt := rws k hl' gt nt up
  have ot : ∀ x ∈ l, OkT (tolI p q r x) := fun x h => (gt x h).ok
  have e1 := s_due (hp := hp) op oq or' hl'
  have e2 : f_merged [.v (.ref b), .v (rw3 l p), .v (rw3 l q), .v (rw3 l r)] hp = .ok (.v (dueI l p q r)) hp := (s_merged wp wq wr).trans (by rw [due_mg])
  have e3 : f_merged [.v (.ref b), .v (rw3 l p), .v (rw3 l r), .v (rw3 l q)] hp = .ok (.v (dueI l p q r)) hp := (s_merged wp wr wq).trans (by rw [due_mg, due_swap])
  have e4 : f_merged [.v (.ref b), .v (rw3 l p), .v (rw3 l p), .v (rw3 l r)] hp = .ok (.v (.tup [.str "merged", rw3 l r])) hp := (s_merged wp wp wr).trans (by rw [mg_pp])
  have e5 : f_merged [.v (.ref b), .v (rw3 l p), .v (rw3 l q), .v (rw3 l q)] hp = .ok (.v (.tup [.str "merged", rw3 l q])) hp := (s_merged wp wq wq).trans (by rw [mg_qq])
  have i2 := is_two (hp := hp) (r1 := .f [.tup [.str "merged", rw3 l r], .tup [.str "merged", rw3 l q]]) (r2 := .l [.tup [.str "merged", rw3 l r], .tup [.str "merged", rw3 l q]]) ⟨.inr rfl, rfl⟩ (.pair oks_merged (.rows or' hl')) (.pair oks_merged (.rows oq hl'))
  have e6 := s_unlike wq wr
  have e7 := s_unlike wr wq
  rw [un_swap er] at e7
  have e8 := s_law_unlike (hp := hp) oq or' hl'
  have su : ∀ {f g : γ → T3}, (∀ x ∈ l, OkT (f x)) → ∀ z ∈ unI l f g, PyData.strOk z = true := fun h z hz => by
    obtain ⟨x, hx, _, rfl⟩ := mem_un.mp hz
    exact (h x hx).n
  have lu : ∀ {f g : γ → T3}, (unI l f g).length ≤ 1000 := Nat.le_trans un_len hl'
  have i3 := is_two (hp := hp) (r1 := .l [.tup ((unI l q r).map .str), .tup ((unI l q r).map .str)]) ⟨.inl rfl, rfl⟩ (.strs (su oq) lu) (.strs (su oq) lu)
  have rp : ∀ (y : IV) (s : S), gRep [.l [y], .v (.int 2)] s = .ok (.l [y, y]) s := fun y s => rfl
  have e9 := s_unlike wp wq
  have e10 := s_unlike wp wr
  by_cases hc : 0 < (l.filter fun x => dueC (p x) (q x) (r x)).length
  · have hD : dueI l p q r = .tup [.str "clash", .tup (((l.filter fun x => dueC (p x) (q x) (r x)).map fun x => (p x).1).map .str)] := by
      unfold dueI
      rw [if_pos (decide_eq_true hc), List.map_map]
      rfl
    rw [hD] at e1 e2 e3
    have hcl : ((l.filter fun x => dueC (p x) (q x) (r x)).map fun x => (p x).1).length ≤ 1000 := by
      rw [List.length_map]
      exact Nat.le_trans (List.length_filter_le _ _) hl'
    have d1 : Dn 3 (.tup [.str "clash", .tup (((l.filter fun x => dueC (p x) (q x) (r x)).map fun x => (p x).1).map .str)]) := .pair oks_clash (.strs (fun z hz => by
      obtain ⟨x, hx, rfl⟩ := List.mem_map.mp hz
      exact (op x (List.mem_filter.mp hx).1).n) hcl)
    have i1 := is_two (hp := hp) (r1 := .l _) ⟨.inl rfl, rfl⟩ d1 d1
    have c2 := tr_2 (hp := hp) (w := "clash") (cl := (l.filter fun x => dueC (p x) (q x) (r x)).map fun x => (p x).1) (e0 := some (.v (.ref b))) (e1 := some (.v (rw3 l p))) (e2 := some (.v (rw3 l q))) (e3 := some (.v (rw3 l r))) (e5 := some (.l [.tup [.str "merged", rw3 l r], .tup [.str "merged", rw3 l q]])) (e7 := none) (su (g := q) op) (su (g := r) op) (su (g := r) oq) (fun z hz => by
      obtain ⟨x, hx, rfl⟩ := List.mem_map.mp hz
      obtain ⟨h1, h2⟩ := List.mem_filter.mp hx
      unfold dueC at h2
      simp only [Bool.and_eq_true, Bool.not_eq_true', decide_eq_false_iff_not] at h2
      exact ⟨mem_un.mpr ⟨x, h1, fun h => h2.1 h.symm, rfl⟩, mem_un.mpr ⟨x, h1, fun h => h2.2.1 h.symm, rfl⟩, mem_un.mpr ⟨x, h1, h2.2.2, (ep x h1).symm⟩⟩) hcl
    have q1 := fun s => eq_ss (s := s) (neg := false) oks_clash oks_clash
    have tt := @all_tt
    rw [v_law_three_right, u_law_three_right]
    clear k gp gq gr np nq nr up wp wq wr ep er op oq or' gt nt wt ot su lu hc hD hcl d1 hl hl'
    generalize ((l.filter fun x => dueC (p x) (q x) (r x)).map fun x => (p x).1) = cl at *
    walk_at "py"
  · have hD : dueI l p q r = .tup [.str "merged", rw3 l (tolI p q r)] := by
      unfold dueI
      rw [if_neg (by rw [decide_eq_false hc]; exact Bool.false_ne_true)]
      simp only [tol_tr]
    rw [hD] at e1 e2 e3
    have d1 : Dn 3 (.tup [.str "merged", rw3 l (tolI p q r)]) := .pair oks_merged (.rows ot hl')
    have i1 := is_two (hp := hp) (r1 := .l _) ⟨.inl rfl, rfl⟩ d1 d1
    have q1 := fun s => eq_ss (s := s) (neg := false) oks_merged oks_clash
    have q2 := ne_mc
    have e11 : f_merged [.v (.ref b), .v (rw3 l q), .v (rw3 l (tolI p q r)), .v (rw3 l q)] hp = .ok (.v (.tup [.str "merged", rw3 l (tolI p q r)])) hp := (s_merged wq wt wq).trans (by rw [mg_back])
    have e12 := s_unlike wp wt
    have i5 := s_is (hp := hp) 4 _ (Dn.pair oks_merged (Dn.rows (n := 1) ot hl'))
    have lq : (unI l p q ++ unI l p r).length < 60 := by
      rw [List.length_append]
      have h1 := un_len (l := l) (q := p) (r := q)
      have h2 := un_len (l := l) (q := p) (r := r)
      omega
    have lq' : (unI l p q).length + (unI l p r).length ≤ 100000 := by
      rw [List.length_append] at lq
      omega
    have so := fun s => ev_Sort (s := s) lq
    have hu := un_sort (l := l) (p := p) (q := q) (r := r) (by rw [np]; exact up)
    simp only [hu] at so
    have i6 := s_is (hp := hp) 4 (.tup ((unI l p (tolI p q r)).map .str)) (Dn.strs (su op) lu)
    rw [v_law_three_right, u_law_three_right]
    clear k gp gq gr np nq nr up wp wq wr ep er op oq or' gt nt wt ot su lu hc hD d1 hl hl' lq hu
    walk_at "py"
end

end Py

set_option Elab.async false
set_option linter.all false
set_option maxRecDepth 100000
set_option maxHeartbeats 4000000
namespace Py
open PySem PySem.Spec PyProof.Rows L2
local macro_rules | `(tactic| walk_at "py") => `(tactic| simp only [ev_C, ev_tr, ev_Nx, ev_Rd, kRd1, ev_N, kN1, kN2, kG1, ev_L0, ev_L1, kL1a, kL1b, kL2a, kL2b, ev_nm, kNm1, ev_ex, kX1, kX2, kX3, ev_T, kT1, kT2, ev_B, kB1a, ev_And, ev_Or, ev_Not, kNot1, ev_If, ev_IfS, kIf1, kIf2, kIf3, ev_Seq, kSeq1, kSeq2, kSeq3, ev_Drop, kDrop1, kDrop2, ev_Set, kSet1, kSet2, ev_Ret, kRet1, kRet2, kRet3, ev_Par, ev_pL0, ev_pL1, kPut1, ev_put1, ev_put2, ev_Asg, kAsg1, kAs2a, ev_Box, kBox1, kBox2, ev_Call, ev_gCall, kCall1, kCall2, ev_Make, ev_gMake, kMk1, ev_Raise, ev_rdL0, ev_rdL1, kC1, ev_rdl, ev_rdr, ev_rdS, kR1, kR2, kR3, kR4, ev_sq1, ev_sq2, ev_sq3, ev_sq4, ev_I2, ev_I1, ev_Abs, ev_Int, ev_At, kAt1, kV1, ev_Len1, ev_Len2, ev_Len3, ev_Tuple, kTu1, ev_List, kLi1, ev_bx0, ev_bx1, ev_bx2, kB1b, ev_bv1, ev_Tup, ev_Lst, kTup_0, kLst_0, kTup_1, kLst_1, kTup_2, kLst_2, kTup_3, kLst_3, kTup_4, kLst_4, kTup_5, kLst_5, kTup_6, kLst_6, kTup_7, kLst_7, kApp1, kAp2a, ev_IsN, ev_IsT, ev_IsT2, kIs1, kIs2a, ev_ty1, ev_ty2, ev_ty3, ev_ty4, ev_ty5, ev_ty7, ev_ty8, ev_SlH, ev_SlL, fSl1, fSl2, fSl3, fSl4, ev_sN, atI_0, atI_1, atI_2, atI_3, atI_4, atI_5, kFor1, kFor2, fin1, fin2, fin3, fin4, ev_Ch, kCh1a, kCh2a, kCh3a, kCh4a, kCh5a, ev_I2c, ev_sq5, ev_ty6, ev_LenS, ev_Len4, ev_CatT, ev_CatL, kTup1, kLst1, kAp3a, ev_App, kAp0a, beq_self_eq_true, isL1, kSq1, kTy1, kTy2, kLe1, ev_Fl, kFl1, kFl2a, ev_SI, kSI1, kSI2a, ev_SF, kSF1, kSF2a, List.length_map, ev_All, List.getElem?_cons_zero, List.getElem?_cons_succ, List.set_cons_zero, List.set_cons_succ, Bool.not_true, Bool.not_false, isa, decide_true, decide_false, Bool.false_eq_true, if_true, if_false, setT, setNs, Option.map_some, isNon, Bool.or_true, Bool.or_false, Bool.true_or, Bool.false_or, ite_true, ite_false, *])
/-! Q6: the hand, draws. -/
def Hand (hp : List IO) (h : Nat) : Prop := ∃ (c : Nat) (i g m t : Int) (cells : List Int), hp[h]? = some (.lst [.ref c, .int i, .int g, .int m, .int t]) ∧ c ≠ h ∧ hp[c]? = some (.lst (cells.map .int)) ∧ 0 ≤ i ∧ 0 ≤ g
/-- all but h stays -/
def Kp (h : Nat) (hp hp' : List IO) : Prop := ∀ j o, j ≠ h → hp[j]? = some o → hp'[j]? = some o
section
variable {hp hp' hp1 hp2 : List IO} {h : Nat} {n : Int} {s : S} {vs : List IV} {r : RV}
theorem Kp.refl : Kp h hp hp := fun _ _ _ e => e
theorem Kp.trans (a : Kp h hp hp1) (b : Kp h hp1 hp2) : Kp h hp hp2 := fun j o k e => b j o k (a j o k e)
theorem Kp.set {o : IO} : Kp h hp (hp.set h o) := fun j o' k e => by rw [List.getElem?_set_ne (Ne.symm k)]; exact e
theorem Kp.bk {b : Nat} {ns : List (Nat × Str)} (a : Kp h hp hp') (H : Hand hp h) (k : Bk hp b ns) : Bk hp' b ns := by
  obtain ⟨k1, k2, ⟨fs, k3, k4⟩, k5⟩ := k
  obtain ⟨c, i, g, m, t, cells, h1, _⟩ := H
  have ne : ∀ {j : Nat} {q : Str} {fs : List (Str × IV)}, hp[j]? = some (.ins q fs) → j ≠ h := fun e z => by
    rw [z, h1] at e
    cases e
  refine ⟨k1, k2, ⟨fs, a b _ (ne k3) k3, k4⟩, fun q hq => ?_⟩
  obtain ⟨fs, h2, h3⟩ := k5 q hq
  exact ⟨fs, a _ _ (ne h2) h2, h3⟩
theorem cM_r {i j : Int} (h : (decide (-(2 ^ 64) < j) && decide (j < 2 ^ 64)) = true) : cMul i j = true := by
  unfold cMul
  rw [h, Bool.or_true]
theorem cM_l {i j : Int} (h : (decide (-(2 ^ 64) < i) && decide (i < 2 ^ 64)) = true) : cMul i j = true := by
  unfold cMul
  rw [h, Bool.true_or]
theorem cM_m {i j k : Int} (h : 0 < k) (h' : k < 2 ^ 64) : cMul (i % k) j = true := cM_l (by
  have h1 := Int.emod_nonneg i (by omega : k ≠ 0)
  have h2 := Int.emod_lt_of_pos i h
  simp only [Bool.and_eq_true, decide_eq_true_eq]
  omega)
theorem cMod_p {i j : Int} (h : 0 < j) : cMod i j = true := decide_eq_true h
theorem cDiv_p {i j : Int} (h : 0 < j) (h' : j < 1073741824) : cDiv i j = true := by
  unfold cDiv
  rw [decide_eq_true h, decide_eq_true h']
  rfl
def nm1 (m t : Int) : Int := ((m + 7919 * (t + 1)) * 40692) % 2147483647
def nm2 (x : Int) : Int := (x * (x / 1009 + 69621)) % 2147483647
def nm3 (x : Int) : Int := (x * (x / 2003 + 40014)) % 2147483563
theorem s_draw (H : Hand hp h) (hn : 0 < n) (hn2 : n < 1073741824) :
    ∃ k hp', f_law_draw [.v (.ref h), .v (.int n)] hp = .ok (.v (.int k)) hp' ∧ 0 ≤ k ∧ k < n ∧ Hand hp' h ∧ Kp h hp hp' ∧ hp'.length = hp.length := by
  obtain ⟨c, i, g, m, t, cells, h1, hc, h2, h3, h4⟩ := H
  have hl : h < hp.length := (List.getElem?_eq_some_iff.mp h1).1
  have gs : ∀ o, (hp.set h o)[h]? = some o := fun o => by rw [List.getElem?_set_self hl]
  have gc : ∀ o, (hp.set h o)[c]? = some (.lst (cells.map .int)) := fun o => by rw [List.getElem?_set_ne (Ne.symm hc)]; exact h2
  have hand : ∀ (i g m t : Int), 0 ≤ i → 0 ≤ g → Hand (hp.set h (.lst [.ref c, .int i, .int g, .int m, .int t])) h := fun i g m t a b => ⟨c, i, g, m, t, cells, gs _, hc, gc _, a, b⟩
  have x1 : ∀ a0 a1 a2 a3 a4 : IV, ixN [a0, a1, a2, a3, a4].length 1 = some 1 := fun _ _ _ _ _ => rfl
  have x2 : ∀ a0 a1 a2 a3 a4 : IV, ixN [a0, a1, a2, a3, a4].length 2 = some 2 := fun _ _ _ _ _ => rfl
  have x3 : ∀ a0 a1 a2 a3 a4 : IV, ixN [a0, a1, a2, a3, a4].length 3 = some 3 := fun _ _ _ _ _ => rfl
  have x4 : ∀ a0 a1 a2 a3 a4 : IV, ixN [a0, a1, a2, a3, a4].length 4 = some 4 := fun _ _ _ _ _ => rfl
  have ss : ∀ o o' : IO, (hp.set h o).set h o' = hp.set h o' := fun o o' => List.set_set ..
  have l1 := @gLt_i
  have l2 := @eq_ii
  have c1 : ∀ i, cMul i 69621 = true := fun i => cM_r rfl
  have c2 : ∀ i, cMul i 48271 = true := fun i => cM_r rfl
  have c3 : ∀ i, cMul 7919 i = true := fun i => cM_l rfl
  have c4 : ∀ i, cMul i 40692 = true := fun i => cM_r rfl
  have c5 : ∀ i j, cMul (i % 2147483647) j = true := fun i j => cM_m (by decide) (by decide)
  have d1 : ∀ i, cMod i 2147483629 = true := fun i => rfl
  have d2 : ∀ i, cMod i 2147483647 = true := fun i => rfl
  have d3 : ∀ i, cMod i 2147483563 = true := fun i => rfl
  have d4 : ∀ i, cMod i n = true := fun i => cMod_p hn
  have d5 : ∀ i, cDiv i n = true := fun i => cDiv_p hn hn2
  have d6 : ∀ i, cDiv i 1009 = true := fun i => rfl
  have d7 : ∀ i, cDiv i 2003 = true := fun i => rfl
  have d8 : ∀ i, cDiv i 16 = true := fun i => rfl
  have p1 : cPow 10 18 = true := rfl
  have hmod : ∀ i : Int, 0 ≤ i % n ∧ i % n < n := fun i => ⟨Int.emod_nonneg i (by omega), Int.emod_lt_of_pos i hn⟩
  by_cases hg : g = 0
  · subst hg
    have b1 : ((0 : Int) == 0) = true := rfl
    have z0 : ¬ ((0 : Int) < 0) := by omega
    by_cases hi : i < cells.length
    · have hx : (cells.map IV.int)[i.toNat]? = some (.int (cells[i.toNat]'(by omega))) := by
        rw [List.getElem?_map, List.getElem?_eq_getElem (by omega)]
        rfl
      generalize (cells[i.toNat]'(by omega)) = cell at hx
      have ha : atI (cells.map IV.int) i = some (.int cell) := by
        have := atI_nat hx
        rwa [Int.toNat_of_nonneg h3] at this
      by_cases hb : (10 : Int) ^ (18 : Int).toNat ≤ cell
      · have hp0 : (0 : Int) < cell := by
          have : (10 : Int) ^ (18 : Int).toNat = 1000000000000000000 := by decide
          omega
        refine ⟨cell % n, hp.set h (.lst [.ref c, .int (i + 1), .int (cell / n), .int ((m * 69621 + cell * 48271 + 17) % 2147483629), .int t]), ?_, (hmod _).1, (hmod _).2, hand _ _ _ _ (by omega) (Int.ediv_nonneg (by omega) (by omega)), Kp.set, List.length_set ..⟩
        rw [v_law_draw, u_law_draw]
        clear hand hmod hx h3 h4 hn hn2
        walk_at "py"
      · refine ⟨nm3 (nm2 (nm1 ((m * 69621 + cell * 48271 + 17) % 2147483629) t)) / 16 % n, hp.set h (.lst [.ref c, .int (i + 1), .int 0, .int ((m * 69621 + cell * 48271 + 17) % 2147483629), .int (t + 1)]), ?_, (hmod _).1, (hmod _).2, hand _ _ _ _ (by omega) (by omega), Kp.set, List.length_set ..⟩
        rw [v_law_draw, u_law_draw]
        unfold nm3 nm2 nm1
        clear hand hmod hx h3 h4 hn hn2
        walk_at "py"
    · refine ⟨nm3 (nm2 (nm1 m t)) / 16 % n, hp.set h (.lst [.ref c, .int i, .int 0, .int m, .int (t + 1)]), ?_, (hmod _).1, (hmod _).2, hand _ _ _ _ (by omega) (by omega), Kp.set, List.length_set ..⟩
      rw [v_law_draw, u_law_draw]
      unfold nm3 nm2 nm1
      clear hand hmod h3 h4 hn hn2
      walk_at "py"
  · have b1 : (g == 0) = false := by
      rw [beq_eq_false_iff_ne]
      exact hg
    have z0 : (0 : Int) < g := by omega
    refine ⟨g % n, hp.set h (.lst [.ref c, .int i, .int (g / n), .int m, .int t]), ?_, (hmod _).1, (hmod _).2, hand _ _ _ _ h3 (Int.ediv_nonneg h4 (by omega)), Kp.set, List.length_set ..⟩
    rw [v_law_draw, u_law_draw]
    clear hand hmod hg h3 h4 hn hn2
    walk_at "py"
theorem s_any (H : Hand hp h) (hr : r = .l vs ∨ r = .f vs) (h0 : 0 < vs.length) (h9 : vs.length ≤ 1000) :
    ∃ x hp', f_law_any [.v (.ref h), r] hp = .ok (.v x) hp' ∧ x ∈ vs ∧ Hand hp' h ∧ Kp h hp hp' ∧ hp'.length = hp.length := by
  obtain ⟨k, hp', e, k1, k2, H', K, L⟩ := s_draw (n := (vs.length : Int)) H (by omega) (by omega)
  have hx : vs[k.toNat]? = some (vs[k.toNat]'(by omega)) := List.getElem?_eq_getElem (by omega)
  have hm : (vs[k.toNat]'(by omega)) ∈ vs := List.getElem_mem _
  generalize (vs[k.toNat]'(by omega)) = x at hx hm
  have ha : atI vs k = some x := by
    have := atI_nat hx
    rwa [Int.toNat_of_nonneg k1] at this
  refine ⟨x, hp', ?_, hm, H', K, L⟩
  rw [v_law_any, u_law_any]
  rcases hr with rfl | rfl
  · clear H H' K hx hm
    walk_at "py"
  · clear H H' K hx hm
    walk_at "py"
theorem s_some {js : List Int} (H : Hand hp h) (hn : 0 < n) (hn2 : n < 1073741824) (hl : js.length ≤ 1000) :
    ∃ (ks : List Int) (hp' : List IO), f_law_some [.v (.ref h), .f (js.map .int), .v (.int n)] hp = .ok (.v (.tup (ks.map .int))) hp' ∧ ks.Sublist js ∧ Hand hp' h ∧ Kp h hp hp' ∧ hp'.length = hp.length := by
  obtain ⟨acc, s', e, ks, hp', rfl, sb, rfl, H', K, L⟩ : ∃ acc s', c_law_some_1 ⟨[some (.v (.ref h)), some (.f (js.map .int)), some (.v (.int n)), none], hp⟩ = .ok (.l acc) s' ∧
      ∃ (ks : List Int) (hp' : List IO), acc = ks.map .int ∧ ks.Sublist (js.take (js.map IV.int).length) ∧ s' = ⟨[some (.v (.ref h)), some (.f (js.map .int)), some (.v (.int n)), none], hp'⟩ ∧ Hand hp' h ∧ Kp h hp hp' ∧ hp'.length = hp.length := by
    refine lc_inv (src := srcOf false (.inl 1)) (vs := js.map .int) (fun k acc s' => ∃ (ks : List Int) (hp' : List IO), acc = ks.map .int ∧ ks.Sublist (js.take k) ∧ s' = ⟨[some (.v (.ref h)), some (.f (js.map .int)), some (.v (.int n)), none], hp'⟩ ∧ Hand hp' h ∧ Kp h hp hp' ∧ hp'.length = hp.length)
      rfl ⟨[], hp, rfl, List.nil_sublist _, rfl, H, Kp.refl, rfl⟩ rfl (by rw [List.length_map]; omega) ?_ ?_
    · rintro k acc s ⟨ks, hp', rfl, _, rfl, _⟩
      rfl
    · rintro k x acc s hx ⟨ks, hp1, rfl, sb, rfl, H1, K1, L1⟩
      rw [List.getElem?_map] at hx
      obtain ⟨y, hy, rfl⟩ := Option.map_eq_some_iff.mp hx
      obtain ⟨d, hp2, e, d1, d2, H2, K2, L2⟩ := s_draw (n := n) H1 hn hn2
      refine ⟨_, rfl, ?_⟩
      have l2 := @eq_ii
      by_cases hd : d = 0
      · subst hd
        right
        have b1 : ((0 : Int) == 0) = true := rfl
        refine ⟨⟨[some (.v (.ref h)), some (.f (js.map .int)), some (.v (.int n)), some (.v (.int y))], hp2⟩, _, .int y, ?_, rfl, ks ++ [y], hp2, by rw [List.map_append]; rfl, ?_, rfl, H2, K1.trans K2, by omega⟩
        · clear H1 H2 K1 K2 sb hx hy L1 L2 d1 d2
          walk_at "py"
        · rw [List.take_succ, hy]
          exact List.Sublist.append sb (List.Sublist.refl _)
      · left
        have b1 : (d == 0) = false := by
          rw [beq_eq_false_iff_ne]
          exact hd
        refine ⟨⟨[some (.v (.ref h)), some (.f (js.map .int)), some (.v (.int n)), some (.v (.int y))], hp2⟩, ?_, ks, hp2, rfl, ?_, rfl, H2, K1.trans K2, by omega⟩
        · clear H1 H2 K1 K2 sb hx hy L1 L2 d1 d2
          walk_at "py"
        · rw [List.take_succ]
          exact List.Sublist.trans sb (List.sublist_append_left ..)
  rw [List.length_map, List.take_length] at sb
  refine ⟨ks, hp', ?_, sb, H', K, L⟩
  rw [v_law_some, u_law_some]
  clear H H' K sb
  walk_at "py"
end

end Py

set_option Elab.async false
set_option linter.all false
set_option maxRecDepth 100000
set_option maxHeartbeats 4000000
namespace Py
open PySem PySem.Spec PyProof.Rows L2
local macro_rules | `(tactic| walk_at "py") => `(tactic| simp only [ev_C, ev_tr, ev_Nx, ev_Rd, kRd1, ev_N, kN1, kN2, kG1, ev_L0, ev_L1, kL1a, kL1b, kL2a, kL2b, ev_nm, kNm1, ev_ex, kX1, kX2, kX3, ev_T, kT1, kT2, ev_B, kB1a, ev_And, ev_Or, ev_Not, kNot1, ev_If, ev_IfS, kIf1, kIf2, kIf3, ev_Seq, kSeq1, kSeq2, kSeq3, ev_Drop, kDrop1, kDrop2, ev_Set, kSet1, kSet2, ev_Ret, kRet1, kRet2, kRet3, ev_Par, ev_pL0, ev_pL1, kPut1, ev_put1, ev_put2, ev_Asg, kAsg1, kAs2a, ev_Box, kBox1, kBox2, ev_Call, ev_gCall, kCall1, kCall2, ev_Make, ev_gMake, kMk1, ev_Raise, ev_rdL0, ev_rdL1, kC1, ev_rdl, ev_rdr, ev_rdS, kR1, kR2, kR3, kR4, ev_sq1, ev_sq2, ev_sq3, ev_sq4, ev_I2, ev_I1, ev_Abs, ev_Int, ev_At, kAt1, kV1, ev_Len1, ev_Len2, ev_Len3, ev_Tuple, kTu1, ev_List, kLi1, ev_bx0, ev_bx1, ev_bx2, kB1b, ev_bv1, ev_Tup, ev_Lst, kTup_0, kLst_0, kTup_1, kLst_1, kTup_2, kLst_2, kTup_3, kLst_3, kTup_4, kLst_4, kTup_5, kLst_5, kTup_6, kLst_6, kTup_7, kLst_7, kApp1, kAp2a, ev_IsN, ev_IsT, ev_IsT2, kIs1, kIs2a, ev_ty1, ev_ty2, ev_ty3, ev_ty4, ev_ty5, ev_ty7, ev_ty8, ev_SlH, ev_SlL, fSl1, fSl2, fSl3, fSl4, ev_sN, atI_0, atI_1, atI_2, atI_3, atI_4, atI_5, kFor1, kFor2, fin1, fin2, fin3, fin4, ev_Ch, kCh1a, kCh2a, kCh3a, kCh4a, kCh5a, ev_I2c, ev_sq5, ev_ty6, ev_LenS, ev_Len4, ev_CatT, ev_CatL, kTup1, kLst1, kAp3a, ev_App, kAp0a, beq_self_eq_true, isL1, kSq1, kTy1, kTy2, kLe1, ev_Fl, kFl1, kFl2a, ev_SI, kSI1, kSI2a, ev_SF, kSF1, kSF2a, List.length_map, ev_All, List.getElem?_cons_zero, List.getElem?_cons_succ, List.set_cons_zero, List.set_cons_succ, Bool.not_true, Bool.not_false, isa, decide_true, decide_false, Bool.false_eq_true, if_true, if_false, setT, setNs, Option.map_some, isNon, Bool.or_true, Bool.or_false, Bool.true_or, Bool.false_or, ite_true, ite_false, *])
/-! Q7: hand, row, rule. -/
def kLk (i : Nat) (s : S) : Option (Option RV) → Rs RV
  | some (some (.v x)) => .ok (.v x) s
  | some (some (.l vs)) => .ok (.v (.ref s.hp.length)) ⟨s.env.set i (some (.v (.ref s.hp.length))), s.hp ++ [.lst vs]⟩
  | _ => .bad
section
variable {hp hp' hp1 hp2 : List IO} {h : Nat} {n : Int} {s : S} {vs : List IV} {r : RV}
theorem ev_Lk {i : Nat} : mLk i s = kLk i s s.env[i]? := by
  unfold mLk kLk
  rcases s.env[i]? with _ | _ | _ | _ | _ | _ <;> rfl
theorem kLk2 {i : Nat} : kLk i s (some (some (.l vs))) = .ok (.v (.ref s.hp.length)) ⟨s.env.set i (some (.v (.ref s.hp.length))), s.hp ++ [.lst vs]⟩ := rfl
local macro_rules | `(tactic| walk_at "py") => `(tactic| simp only [ev_C, ev_tr, ev_Nx, ev_Rd, kRd1, ev_N, kN1, kN2, kG1, ev_L0, ev_L1, kL1a, kL1b, kL2a, kL2b, ev_nm, kNm1, ev_ex, kX1, kX2, kX3, ev_T, kT1, kT2, ev_B, kB1a, ev_And, ev_Or, ev_Not, kNot1, ev_If, ev_IfS, kIf1, kIf2, kIf3, ev_Seq, kSeq1, kSeq2, kSeq3, ev_Drop, kDrop1, kDrop2, ev_Set, kSet1, kSet2, ev_Ret, kRet1, kRet2, kRet3, ev_Par, ev_pL0, ev_pL1, kPut1, ev_put1, ev_put2, ev_Asg, kAsg1, kAs2a, ev_Box, kBox1, kBox2, ev_Call, ev_gCall, kCall1, kCall2, ev_Make, ev_gMake, kMk1, ev_Raise, ev_rdL0, ev_rdL1, kC1, ev_rdl, ev_rdr, ev_rdS, kR1, kR2, kR3, kR4, ev_sq1, ev_sq2, ev_sq3, ev_sq4, ev_I2, ev_I1, ev_Abs, ev_Int, ev_At, kAt1, kV1, ev_Len1, ev_Len2, ev_Len3, ev_Tuple, kTu1, ev_List, kLi1, ev_bx0, ev_bx1, ev_bx2, kB1b, ev_bv1, ev_Tup, ev_Lst, kTup_0, kLst_0, kTup_1, kLst_1, kTup_2, kLst_2, kTup_3, kLst_3, kTup_4, kLst_4, kTup_5, kLst_5, kTup_6, kLst_6, kTup_7, kLst_7, kApp1, kAp2a, ev_IsN, ev_IsT, ev_IsT2, kIs1, kIs2a, ev_ty1, ev_ty2, ev_ty3, ev_ty4, ev_ty5, ev_ty7, ev_ty8, ev_SlH, ev_SlL, fSl1, fSl2, fSl3, fSl4, ev_sN, atI_0, atI_1, atI_2, atI_3, atI_4, atI_5, kFor1, kFor2, fin1, fin2, fin3, fin4, ev_Ch, kCh1a, kCh2a, kCh3a, kCh4a, kCh5a, ev_I2c, ev_sq5, ev_ty6, ev_LenS, ev_Len4, ev_CatT, ev_CatL, kTup1, kLst1, kAp3a, ev_App, kAp0a, beq_self_eq_true, isL1, kSq1, kTy1, kTy2, kLe1, ev_Fl, kFl1, kFl2a, ev_SI, kSI1, kSI2a, ev_SF, kSF1, kSF2a, List.length_map, ev_All, List.getElem?_cons_zero, List.getElem?_cons_succ, List.set_cons_zero, List.set_cons_succ, Bool.not_true, Bool.not_false, isa, decide_true, decide_false, Bool.false_eq_true, if_true, if_false, setT, setNs, Option.map_some, isNon, Bool.or_true, Bool.or_false, Bool.true_or, Bool.false_or, ite_true, ite_false, ev_Lk, kLk2, *])
theorem cutI_H (k : Nat) : cutI vs none (some (k : Int)) = vs.take k := by
  unfold cutI
  rw [HT.sIx_none, HT.sIx_nat, Nat.sub_zero, List.drop_zero]
  rcases Nat.le_total k vs.length with h | h
  · rw [Nat.min_eq_left h]
  · rw [Nat.min_eq_right h, List.take_of_length_le h, List.take_length]
theorem cutI_L (k : Nat) : cutI vs (some (k : Int)) none = vs.drop k := by
  unfold cutI
  rw [HT.sIx_none, HT.sIx_nat, List.take_of_length_le (by rw [List.length_drop]; exact Nat.le_refl _)]
  rcases Nat.le_total k vs.length with h | h
  · rw [Nat.min_eq_left h]
  · rw [Nat.min_eq_right h, List.drop_length, List.drop_eq_nil_of_le h]
theorem its_exl {m : M RV} {s s1 : S} (h : m s = .ok (.l vs) s1) : itS (.ex m) s = .ok (srcOf false (.inr (.l vs))) s1 := by
  unfold itS
  rw [ev_ex, h]
  rfl
theorem get_cc {o : IO} : (hp ++ [o])[hp.length]? = some o := List.getElem?_concat_length
theorem s_hand {is : List Int} (hr : r = .z (is.map .int) ∨ r = .f (is.map .int)) (hl : is.length ≤ 1000) :
    ∃ (ms : List Int) (m : Int), f_law_hand [r] hp = .ok (.l [.ref hp.length, .int 0, .int 0, .int m, .int 0]) (hp ++ [.lst (ms.map .int)]) := by
  have ln : ((is.take 63).length : Nat) ≤ 100000 := by
    rw [List.length_take]
    omega
  have e : c_law_hand_1 ⟨[some r, none, none], hp⟩ = .ok (.l ((is.take 63).map fun i => .int (if i < 0 then -i else i))) ⟨[some r, none, none], hp⟩ := by
    refine lc_map (src := srcOf false (.inr (.l (cutI (is.map .int) none (some 63))))) (fun i : Int => .int i) (fun i : Int => .int (if i < 0 then -i else i)) (is.take 63) (its_exl ?_) ?_ rfl ln (fun i hi => ⟨⟨[some r, none, some (.v (.int i))], hp⟩, rfl, rfl, rfl⟩)
    · rcases hr with rfl | rfl
      · walk_at "py"
      · walk_at "py"
    · show some (cutI (is.map .int) none (some 63)) = _
      rw [show (63 : Int) = ((63 : Nat) : Int) from rfl, cutI_H, List.map_take]
  have c1 : ∀ i, cMul 19 i = true := fun i => cM_l rfl
  have g := @get_cc
  refine ⟨(is.take 63).map fun i => if i < 0 then -i else i, 107 + 19 * ((is.take 63).length : Int), ?_⟩
  rw [List.map_map]
  rw [v_law_hand, u_law_hand]
  clear hr
  walk_at "py"
  rfl
/-! rows drawn -/
/-- a thing whose first part is its name -/
def Nmd (q : Str × IV) : Prop := nmB q.1 = true ∧ ∃ us, q.2 = .tup (.str q.1 :: us)
theorem en_get : ∀ {xs : List IV} {n k : Nat}, (enI n xs)[k]? = xs[k]?.map fun x => .tup [.int ((n + k : Nat) : Int), x] := by
  intro xs
  induction xs with
  | nil => 
    intro n k
    rw [enI]
    rfl
  | cons x xs ih =>
    intro n k
    rw [enI]
    cases k with
    | zero => rfl
    | succ k =>
      rw [List.getElem?_cons_succ, List.getElem?_cons_succ, ih, show n + 1 + k = n + (k + 1) by omega]
theorem en_len : ∀ {xs : List IV} {n : Nat}, (enI n xs).length = xs.length := by
  intro xs
  induction xs with
  | nil => intro n; rfl
  | cons x xs ih => 
    intro n
    rw [enI, List.length_cons, List.length_cons, ih]
theorem gt_mk {a b : Str} {i : Int} (h1 : nmB a = true) (h2 : 0 ≤ i) (h3 : nmB b = true) : GT (a, i, b) := ⟨h1, h2, h3⟩
def RowB (zs : List Str) (x : IV) : Prop := x = .non ∨ ∃ bs : List T3, x = .tup (bs.map tr) ∧ bs.map (·.1) = zs ∧ ∀ t ∈ bs, GT t
theorem row_body {d p : Int} {z : Str} {us : List IV} {e7 : Option RV} {pl pm : IV} {rs ls : List IV} {ts : List T3} {rms : List Str} {zs : List Str} {base : IV} {k : Nat} (H : Hand hp h) (h1 : 0 < d * p) (h2 : d * p < 1073741824)
    (hd : cMul d p = true) (hts : ts.length ≤ 1000) (hr : ∀ z ∈ rms, nmB z = true) (hr0 : 0 < rms.length) (hz : nmB z = true) (hb : RowB zs base) (hk : zs[k]? = some z) :
    ∃ (t : T3) (hp' : List IO) (e : Option RV), d_law_row_2 ⟨[some (.v (.ref h)), some (.v (.tup [.int d, .int p, .tup rs, pl, .tup ls, pm])), some (.v base), some (.l (ts.map tr)), some (.l (rms.map .str)), some (.v (.int (k : Nat))), some (.v (.tup (.str z :: us))), e7], hp⟩ =
      .ok .nx ⟨[some (.v (.ref h)), some (.v (.tup [.int d, .int p, .tup rs, pl, .tup ls, pm])), some (.v base), some (.l ((ts ++ [t]).map tr)), some (.l (rms.map .str)), some (.v (.int (k : Nat))), some (.v (.tup (.str z :: us))), e], hp'⟩ ∧ t.1 = z ∧ GT t ∧ Hand hp' h ∧ Kp h hp hp' ∧ hp'.length = hp.length := by
  obtain ⟨a, hp1, e1, a1, a2, H1, K1, L1⟩ := s_draw H h1 h2
  obtain ⟨x, hp2, e3, hx, H2, K2, L2⟩ := s_any (r := .l ((rms.map .str).take 2)) H1 (.inl rfl) (by rw [List.length_take, List.length_map]; omega) (by rw [List.length_take, List.length_map]; omega)
  obtain ⟨y, hy, rfl⟩ := List.mem_map.mp (List.mem_of_mem_take hx)
  have hc : cutI (rms.map .str) none (some 2) = (rms.map IV.str).take 2 := cutI_H 2
  have l2 := @eq_ii
  have ht : ts.length < 100000 := by omega
  rcases hb with rfl | ⟨bs, rfl, hbs, gb⟩
  · refine ⟨(z, a, y), hp2, some (.v (tr (z, a, y))), ?_, rfl, gt_mk hz a1 (hr y hy), H2, K1.trans K2, by omega⟩
    unfold d_law_row_2
    rw [List.map_append]
    clear H H1 H2 K1 K2 L1 L2 a1 a2 hx hy hk hr hz
    walk_at "py"
    rfl
  · obtain ⟨c, hp3, e4, c1, c2, H3, K3, L3⟩ := s_draw (n := 2) H2 (by decide) (by decide)
    by_cases hc0 : c = 0
    · subst hc0
      have b1 : ((0 : Int) == 0) = true := rfl
      refine ⟨(z, a, y), hp3, some (.v (tr (z, a, y))), ?_, rfl, gt_mk hz a1 (hr y hy), H3, (K1.trans K2).trans K3, by omega⟩
      unfold d_law_row_2
      rw [List.map_append]
      clear H H1 H2 K1 K2 L1 L2 H3 K3 L3 a1 a2 hx hy hk hr hz hbs gb
      walk_at "py"
      rfl
    · have b1 : (c == 0) = false := by
        rw [beq_eq_false_iff_ne]
        exact hc0
      rw [← hbs, List.getElem?_map] at hk
      obtain ⟨t, ht1, ht2⟩ := Option.map_eq_some_iff.mp hk
      have hat : atI (bs.map tr) (k : Int) = some (tr t) := atI_nat (by rw [List.getElem?_map, ht1]; rfl)
      refine ⟨t, hp3, some (.v (tr (z, a, y))), ?_, ht2, gb t (List.mem_of_getElem? ht1), H3, (K1.trans K2).trans K3, by omega⟩
      unfold d_law_row_2
      rw [List.map_append]
      clear H H1 H2 K1 K2 L1 L2 H3 K3 L3 a1 a2 hx hy hk hr hz hbs gb ht1 ht2 hc0
      walk_at "py"
      rfl
theorem hut_ok : nmB "hut" = true := by decide +kernel
theorem s_row {d p : Int} {pl pm base : IV} {rs ls : List (Str × IV)} (H : Hand hp h) (h1 : 0 < d * p) (h2 : d * p < 1073741824) (hd : cMul d p = true)
    (hr : ∀ q ∈ rs, Nmd q) (hl : ∀ q ∈ ls, Nmd q) (hr9 : rs.length ≤ 100) (hl9 : ls.length ≤ 100) (hb : RowB (ls.map (·.1)) base) :
    ∃ (ts : List T3) (hp' : List IO), f_law_row [.v (.ref h), .v (.tup [.int d, .int p, .tup (rs.map (·.2)), pl, .tup (ls.map (·.2)), pm]), .v base] hp = .ok (.v (.tup (ts.map tr))) hp' ∧ ts.map (·.1) = ls.map (·.1) ∧ (∀ t ∈ ts, GT t) ∧ Hand hp' h ∧ Kp h hp hp' ∧ hp'.length = hp.length := by
  have c1 : ∀ e, c_law_row_1 ⟨[some (.v (.ref h)), some (.v (.tup [.int d, .int p, .tup (rs.map (·.2)), pl, .tup (ls.map (·.2)), pm])), some (.v base), none, none, none, none, e], hp⟩ = .ok (.l (rs.map fun q => .str q.1)) ⟨[some (.v (.ref h)), some (.v (.tup [.int d, .int p, .tup (rs.map (·.2)), pl, .tup (ls.map (·.2)), pm])), some (.v base), none, none, none, none, e], hp⟩ := fun e => by
    refine lc_map (src := srcOf true (.inr (.v (.tup (rs.map (·.2)))))) (fun q : Str × IV => q.2) (fun q : Str × IV => .str q.1) rs ?_ rfl rfl (by omega) (fun q hq => ⟨⟨[some (.v (.ref h)), some (.v (.tup [.int d, .int p, .tup (rs.map (·.2)), pl, .tup (ls.map (·.2)), pm])), some (.v base), none, none, none, some (.v q.2), e], hp⟩, rfl, rfl, ?_⟩)
    · refine its_ex ?_
      clear hr hl hb H
      walk_at "py"
    · obtain ⟨_, us, hu⟩ := hr q hq
      rw [hu]
      clear hr hl hb H hq hu
      walk_at "py"
  have hcat : (rs.map fun q => .str q.1) ++ [IV.str "hut"] = (rs.map (fun q : Str × IV => q.1) ++ [("hut" : Str)]).map IV.str := by
    rw [List.map_append, List.map_map]
    rfl
  obtain ⟨s', e, ts, hp', e5, e6, e7, rfl, t1, t2, H', K', L'⟩ : ∃ s', c_law_row_2 ⟨[some (.v (.ref h)), some (.v (.tup [.int d, .int p, .tup (rs.map (·.2)), pl, .tup (ls.map (·.2)), pm])), some (.v base), some (.l []), some (.l ((rs.map (fun q : Str × IV => q.1) ++ [("hut" : Str)]).map IV.str)), none, none, none], hp⟩ = .ok .nx s' ∧
      ∃ (ts : List T3) (hp' : List IO) (e5 e6 e7 : Option RV), s' = ⟨[some (.v (.ref h)), some (.v (.tup [.int d, .int p, .tup (rs.map (·.2)), pl, .tup (ls.map (·.2)), pm])), some (.v base), some (.l (ts.map tr)), some (.l ((rs.map (fun q : Str × IV => q.1) ++ [("hut" : Str)]).map IV.str)), e5, e6, e7], hp'⟩ ∧
        ts.map (·.1) = (ls.take (enI 0 (ls.map (·.2))).length).map (·.1) ∧ (∀ t ∈ ts, GT t) ∧ Hand hp' h ∧ Kp h hp hp' ∧ hp'.length = hp.length := by
    refine for_inv (src := srcE (srcOf true (.inr (.v (.tup (ls.map (·.2))))))) (vs := enI 0 (ls.map (·.2)))
      (fun k s' => ∃ (ts : List T3) (hp' : List IO) (e5 e6 e7 : Option RV), s' = ⟨[some (.v (.ref h)), some (.v (.tup [.int d, .int p, .tup (rs.map (·.2)), pl, .tup (ls.map (·.2)), pm])), some (.v base), some (.l (ts.map tr)), some (.l ((rs.map (fun q : Str × IV => q.1) ++ [("hut" : Str)]).map IV.str)), e5, e6, e7], hp'⟩ ∧
        ts.map (·.1) = (ls.take k).map (·.1) ∧ (∀ t ∈ ts, GT t) ∧ Hand hp' h ∧ Kp h hp hp' ∧ hp'.length = hp.length) ?_ ⟨[], hp, none, none, none, rfl, rfl, fun t ht => absurd ht List.not_mem_nil, H, Kp.refl, rfl⟩ ?_ ?_
    · have : itE (.ex (mN [(.nm 1), (.ex (mC (.int 4)))] gAt)) ⟨[some (.v (.ref h)), some (.v (.tup [.int d, .int p, .tup (rs.map (·.2)), pl, .tup (ls.map (·.2)), pm])), some (.v base), some (.l []), some (.l ((rs.map (fun q : Str × IV => q.1) ++ [("hut" : Str)]).map IV.str)), none, none, none], hp⟩ = .ok (srcE (srcOf true (.inr (.v (.tup (ls.map (·.2))))))) ⟨[some (.v (.ref h)), some (.v (.tup [.int d, .int p, .tup (rs.map (·.2)), pl, .tup (ls.map (·.2)), pm])), some (.v base), some (.l []), some (.l ((rs.map (fun q : Str × IV => q.1) ++ [("hut" : Str)]).map IV.str)), none, none, none], hp⟩ := by
        unfold itE
        rw [show runL [Opd.ex (mN [(.nm 1), (.ex (mC (.int 4)))] gAt)] ⟨[some (.v (.ref h)), some (.v (.tup [.int d, .int p, .tup (rs.map (·.2)), pl, .tup (ls.map (·.2)), pm])), some (.v base), some (.l []), some (.l ((rs.map (fun q : Str × IV => q.1) ++ [("hut" : Str)]).map IV.str)), none, none, none], hp⟩ = .ok [.inr (.v (.tup (ls.map (·.2))))] ⟨[some (.v (.ref h)), some (.v (.tup [.int d, .int p, .tup (rs.map (·.2)), pl, .tup (ls.map (·.2)), pm])), some (.v base), some (.l []), some (.l ((rs.map (fun q : Str × IV => q.1) ++ [("hut" : Str)]).map IV.str)), none, none, none], hp⟩ by
          clear hr hl hb H c1
          walk_at "py"]
        rfl
      exact this
    · rintro k s ⟨ts, hp', e5, e6, e7, rfl, _⟩
      rfl
    · rintro k x s hx ⟨ts, hp', e5, e6, e7, rfl, t1, t2, H', K', L'⟩
      rw [en_get, List.getElem?_map] at hx
      obtain ⟨y, hy, rfl⟩ := Option.map_eq_some_iff.mp hx
      obtain ⟨q, hq, rfl⟩ := Option.map_eq_some_iff.mp hy
      obtain ⟨hz, us, hu⟩ := hl q (List.mem_of_getElem? hq)
      have hlen : ts.length ≤ 1000 := by
        have : ts.length = (ls.take k).length := by
          have := congrArg List.length t1
          rwa [List.length_map, List.length_map] at this
        rw [List.length_take] at this
        omega
      obtain ⟨t, hp2, e, f1, f2, f3, f4, f5, f6⟩ := row_body (e7 := e7) (pl := pl) (pm := pm) (rs := rs.map (·.2)) (ls := ls.map (·.2)) (us := us) (ts := ts) (rms := rs.map (fun q : Str × IV => q.1) ++ [("hut" : Str)]) (base := base) (k := k) (z := q.1) H' h1 h2 hd hlen (by
        intro z hz
        rcases List.mem_append.mp hz with hz | hz
        · obtain ⟨q, hq, rfl⟩ := List.mem_map.mp hz
          exact (hr q hq).1
        · rw [List.mem_singleton.mp hz]
          exact hut_ok) (by rw [List.length_append]; exact Nat.lt_of_lt_of_le Nat.zero_lt_one (Nat.le_add_left ..)) hz hb (by rw [List.getElem?_map, hq]; rfl)
      rw [hu]
      refine ⟨⟨[some (.v (.ref h)), some (.v (.tup [.int d, .int p, .tup (rs.map (·.2)), pl, .tup (ls.map (·.2)), pm])), some (.v base), some (.l (ts.map tr)), some (.l ((rs.map (fun q : Str × IV => q.1) ++ [("hut" : Str)]).map IV.str)), some (.v (.int ((k : Nat) : Int))), some (.v (.tup (.str q.1 :: us))), e7], hp'⟩, _, ?_, f1, ts ++ [t], hp2, some (.v (.int ((k : Nat) : Int))), some (.v (.tup (.str q.1 :: us))), e, rfl, ?_, ?_, f4, K'.trans f5, by omega⟩
      · show some _ = _
        rw [Nat.zero_add]
        rfl
      · rw [List.map_append, t1, List.take_succ, hq, List.map_append]
        simp only [Option.toList, List.map_cons, List.map_nil, f2]
      · intro u hu
        rcases List.mem_append.mp hu with hu | hu
        · exact t2 u hu
        · rw [List.mem_singleton.mp hu]
          exact f3
  rw [en_len, List.length_map, List.take_length] at t1
  refine ⟨ts, hp', ?_, t1, t2, H', K', L'⟩
  have hlc : rs.length + ([IV.str "hut"] : List IV).length ≤ 100000 := by
    show rs.length + 1 ≤ 100000
    omega
  have c1' := c1 none
  rw [v_law_row, u_law_row]
  clear H H' K' L' hr hl hb t1 t2 c1
  walk_at "py"
end

end Py

set_option Elab.async false
set_option linter.all false
set_option maxRecDepth 100000
set_option maxHeartbeats 4000000
namespace Py
open PySem PySem.Spec PyProof.Rows L2
local macro_rules | `(tactic| walk_at "py") => `(tactic| simp only [ev_C, ev_tr, ev_Nx, ev_Rd, kRd1, ev_N, kN1, kN2, kG1, ev_L0, ev_L1, kL1a, kL1b, kL2a, kL2b, ev_nm, kNm1, ev_ex, kX1, kX2, kX3, ev_T, kT1, kT2, ev_B, kB1a, ev_And, ev_Or, ev_Not, kNot1, ev_If, ev_IfS, kIf1, kIf2, kIf3, ev_Seq, kSeq1, kSeq2, kSeq3, ev_Drop, kDrop1, kDrop2, ev_Set, kSet1, kSet2, ev_Ret, kRet1, kRet2, kRet3, ev_Par, ev_pL0, ev_pL1, kPut1, ev_put1, ev_put2, ev_Asg, kAsg1, kAs2a, ev_Box, kBox1, kBox2, ev_Call, ev_gCall, kCall1, kCall2, ev_Make, ev_gMake, kMk1, ev_Raise, ev_rdL0, ev_rdL1, kC1, ev_rdl, ev_rdr, ev_rdS, kR1, kR2, kR3, kR4, ev_sq1, ev_sq2, ev_sq3, ev_sq4, ev_I2, ev_I1, ev_Abs, ev_Int, ev_At, kAt1, kV1, ev_Len1, ev_Len2, ev_Len3, ev_Tuple, kTu1, ev_List, kLi1, ev_bx0, ev_bx1, ev_bx2, kB1b, ev_bv1, ev_Tup, ev_Lst, kTup_0, kLst_0, kTup_1, kLst_1, kTup_2, kLst_2, kTup_3, kLst_3, kTup_4, kLst_4, kTup_5, kLst_5, kTup_6, kLst_6, kTup_7, kLst_7, kApp1, kAp2a, ev_IsN, ev_IsT, ev_IsT2, kIs1, kIs2a, ev_ty1, ev_ty2, ev_ty3, ev_ty4, ev_ty5, ev_ty7, ev_ty8, ev_SlH, ev_SlL, fSl1, fSl2, fSl3, fSl4, ev_sN, atI_0, atI_1, atI_2, atI_3, atI_4, atI_5, kFor1, kFor2, fin1, fin2, fin3, fin4, ev_Ch, kCh1a, kCh2a, kCh3a, kCh4a, kCh5a, ev_I2c, ev_sq5, ev_ty6, ev_LenS, ev_Len4, ev_CatT, ev_CatL, kTup1, kLst1, kAp3a, ev_App, kAp0a, beq_self_eq_true, isL1, kSq1, kTy1, kTy2, kLe1, ev_Fl, kFl1, kFl2a, ev_SI, kSI1, kSI2a, ev_SF, kSF1, kSF2a, List.length_map, ev_All, List.getElem?_cons_zero, List.getElem?_cons_succ, List.set_cons_zero, List.set_cons_succ, Bool.not_true, Bool.not_false, isa, decide_true, decide_false, Bool.false_eq_true, if_true, if_false, setT, setNs, Option.map_some, isNon, Bool.or_true, Bool.or_false, Bool.true_or, Bool.false_or, ite_true, ite_false, ev_Lk, kLk2, *])
/-! Q8: a drawn rule. -/
section
variable {hp hp' hp1 hp2 : List IO} {h : Nat} {n : Int} {s : S} {vs : List IV} {r : RV} {neg : Bool} {x : IV} {zs : List Str}
def inB (vs : List IV) (x : IV) : Bool := match toD x, toDL vs with
  | some d, some ds => ds.any fun z => PyData.eqv z d
  | _, _ => false
def Fld (x : IV) : Prop := ∃ d, toD x = some d ∧ d.canLay0 = true ∧ d.depth ≤ 5
theorem fld_all : ∀ {vs : List IV}, (∀ y ∈ vs, Fld y) → ∃ ds, toDL vs = some ds ∧ PyData.canLayAll0 ds = true ∧ PyData.depthAll ds ≤ 5
  | [], _ => ⟨[], by rw [toDL], by rw [PyData.canLayAll0], by rw [PyData.depthAll]; omega⟩
  | y :: vs, h => by
    obtain ⟨d, d1, d2, d3⟩ := h y (List.mem_cons_self ..)
    obtain ⟨ds, e1, e2, e3⟩ := fld_all (vs := vs) fun z hz => h z (List.mem_cons_of_mem _ hz)
    refine ⟨d :: ds, by rw [toDL, d1, e1], by rw [PyData.canLayAll0, d2, e2]; rfl, ?_⟩
    rw [PyData.depthAll]
    omega
theorem rD_v {d : PyData} (h : toD x = some d) : rD hp (.v x) = some d := by
  cases x with
  | ref n => 
    rw [toD] at h
    cases h
  | _ => exact h
theorem in_gen (hr : r = .f vs ∨ r = .v (.tup vs)) (hx : Fld x) (hv : ∀ y ∈ vs, Fld y) : gIn neg [.v x, r] s = .ok (.v (.bl (if neg then !inB vs x else inB vs x))) s := by
  obtain ⟨d, d1, d2, d3⟩ := hx
  obtain ⟨ds, e1, e2, e3⟩ := fld_all hv
  have s1 : SeqAt.shaped d = true := by
    unfold SeqAt.shaped
    rw [d2, decide_eq_true (by omega)]
    rfl
  have s2 : SeqAt.shaped (.list ds) = true := by
    unfold SeqAt.shaped
    rw [PyData.canLay0, e2, PyData.depth, decide_eq_true (by omega)]
    rfl
  have s3 : SeqAt.shaped (.tuple ds) = true := by
    unfold SeqAt.shaped
    rw [PyData.canLay0, e2, PyData.depth, decide_eq_true (by omega)]
    rfl
  have i1 : inB vs x = ds.any fun z => PyData.eqv z d := by
    unfold inB
    rw [d1, e1]
  show (match rD s.hp (.v x), rD s.hp r with
    | some d, some (.list ds) => (match SeqAt.shaped d && SeqAt.shaped (.list ds) with
      | true => (Rs.ok (RV.v (.bl (if neg then !ds.any fun z => PyData.eqv z d else ds.any fun z => PyData.eqv z d))) s : Rs RV)
      | false => .bad)
    | some d, some (.tuple ds) => (match SeqAt.shaped d && SeqAt.shaped (.tuple ds) with
      | true => .ok (.v (.bl (if neg then !ds.any fun z => PyData.eqv z d else ds.any fun z => PyData.eqv z d))) s
      | false => .bad)
    | _, _ => .bad) = _
  rw [rD_v d1, i1]
  rcases hr with rfl | rfl
  · have : rD s.hp (.f vs) = some (.list ds) := by rw [rD, e1]
    rw [this]
    simp only [s1, s2, Bool.and_self]
  · have : rD s.hp (.v (.tup vs)) = some (.tuple ds) := rD_v (by rw [toD, e1])
    rw [this]
    simp only [s1, s3, Bool.and_self]
abbrev pairs5 : List Str := ["apart", "same", "ahead", "together", "next"]
inductive RuleOk (zs : List Str) : IV → Prop where
  | pair {w a b : Str} (hw : w ∈ pairs5) (ha : a ∈ zs) (hb : b ∈ zs) (ne : a ≠ b) : RuleOk zs (.tup [.str w, .str a, .str b])
  | gap {a b : Str} {g : Int} (ha : a ∈ zs) (hb : b ∈ zs) (ne : a ≠ b) (g1 : 1 ≤ g) (g2 : g ≤ 6) : RuleOk zs (.tup [.str "gap", .str a, .str b, .int g])
  | most {lot : List Str} {m : Int} (up : Up lot) (hs : ∀ z ∈ lot, z ∈ zs) (l2 : 2 ≤ lot.length) (l3 : lot.length ≤ 3) (g1 : 1 ≤ m) (g2 : m ≤ 6) : RuleOk zs (.tup [.str "most", .tup (lot.map .str), .int m])
theorem ok_p5 : ∀ w ∈ pairs5, PyData.strOk w = true := by decide +kernel
theorem oks_gap : PyData.strOk "gap" = true := by decide +kernel
theorem oks_most : PyData.strOk "most" = true := by decide +kernel
theorem RuleOk.fld (hz : ∀ z ∈ zs, nmB z = true) (R : RuleOk zs x) : Fld x := by
  have ok : ∀ z ∈ zs, PyData.strOk z = true := fun z h => (nm_len (hz z h)).2.2.2
  cases R with
  | @pair w a b hw ha hb ne =>
    refine ⟨.tuple [.str w, .str a, .str b], rfl, ?_, ?_⟩
    · simp only [PyData.canLay0, PyData.canLayAll0, ok_p5 _ hw, ok _ ha, ok _ hb, Bool.and_self]
    · simp only [PyData.depth, PyData.depthAll]
      omega
  | @gap a b g ha hb ne g1 g2 =>
    refine ⟨.tuple [.str "gap", .str a, .str b, .int g], rfl, ?_, ?_⟩
    · simp only [PyData.canLay0, PyData.canLayAll0, oks_gap, ok _ ha, ok _ hb, Bool.and_self]
    · simp only [PyData.depth, PyData.depthAll]
      omega
  | @most lot m up hs l2 l3 g1 g2 =>
    refine ⟨.tuple [.str "most", .tuple (lot.map .str), .int m], ?_, ?_, ?_⟩
    · simp only [toD, toDL, toD_strs]
    · simp only [PyData.canLay0, PyData.canLayAll0, oks_most, lay_strs (zs := lot) fun z hz' => ok z (hs z hz'), Bool.and_self]
    · simp only [PyData.depth, PyData.depthAll, dep_strs]
      omega
theorem ev_Sort3 {a b c : Str} : gSortSet [.l [.str a, .str b, .str c]] s = .ok (.l ((sortU [a, b, c]).map .str)) s := by
  have := @ev_Sort [a, b, c] [] s (Nat.le_of_ble_eq_true rfl)
  rw [List.append_nil] at this
  exact this
theorem w7 : ∀ w ∈ (["apart", "same", "ahead", "together", "next", "gap", "most"] : List Str), w = "most" ∨ w = "gap" ∨ (w ∈ pairs5 ∧ (w == "most") = false ∧ (w == "gap") = false) := by decide +kernel
theorem ne_gm : (("gap" : Str) == ("most" : Str)) = false := by decide +kernel
theorem s_rule (H : Hand hp h) (h2 : 2 ≤ zs.length) (h4 : zs.length ≤ 4) (hz : ∀ z ∈ zs, nmB z = true) (up : Up zs) :
    ∃ (x : IV) (hp' : List IO), f_law_rule [.v (.ref h), .f (zs.map .str)] hp = .ok (.v x) hp' ∧ RuleOk zs x ∧ Hand hp' h ∧ Kp h hp hp' ∧ hp'.length = hp.length := by
  obtain ⟨e, hp1, e1, a1, a2, H1, K1, L1⟩ := s_draw (n := (zs.length : Int)) H (by omega) (by omega)
  obtain ⟨d, hp2, e2, b1, b2, H2, K2, L2⟩ := s_draw (n := (zs.length : Int) - 1) H1 (by omega) (by omega)
  obtain ⟨x, hp3, e3, hx, H3, K3, L3⟩ := s_any (vs := [.str "apart", .str "same", .str "ahead", .str "together", .str "next", .str "gap", .str "most"]) (r := .l [.str "apart", .str "same", .str "ahead", .str "together", .str "next", .str "gap", .str "most"]) H2 (.inl rfl) (by exact Nat.zero_lt_succ _) (Nat.le_of_ble_eq_true rfl)
  obtain ⟨w, hw, rfl⟩ : ∃ w ∈ (["apart", "same", "ahead", "together", "next", "gap", "most"] : List Str), IV.str w = x := List.mem_map.mp (show x ∈ (["apart", "same", "ahead", "together", "next", "gap", "most"] : List Str).map IV.str from hx)
  have hf : 0 ≤ (e + 1 + d) % (zs.length : Int) ∧ (e + 1 + d) % (zs.length : Int) < zs.length ∧ (e + 1 + d) % (zs.length : Int) ≠ e := by
    rcases (by omega : zs.length = 2 ∨ zs.length = 3 ∨ zs.length = 4) with q | q | q <;> rw [q] at a2 b2 ⊢ <;> omega
  generalize hf' : (e + 1 + d) % (zs.length : Int) = f at hf
  obtain ⟨f1, f2, f3⟩ := hf
  have ia : e.toNat < zs.length := by omega
  have ib : f.toNat < zs.length := by omega
  have nab : zs[e.toNat] ≠ zs[f.toNat] := by
    have hn : ∀ i j (hi : i < zs.length) (hj : j < zs.length), i < j → zs[i] ≠ zs[j] := fun i j hi hj hij z => ltS_irr (by
      have := List.pairwise_iff_getElem.mp up i j hi hj hij
      rw [z] at this
      exact this)
    rcases Nat.lt_or_ge e.toNat f.toNat with q | q
    · exact hn _ _ ia ib q
    · exact (hn _ _ ib ia (by omega)).symm
  have ma : zs[e.toNat] ∈ zs := List.getElem_mem _
  have mb : zs[f.toNat] ∈ zs := List.getElem_mem _
  have ga : atI (zs.map IV.str) e = some (.str zs[e.toNat]) := by
    have := atI_nat (xs := zs.map IV.str) (k := e.toNat) (v := .str zs[e.toNat]) (by rw [List.getElem?_map, List.getElem?_eq_getElem ia]; rfl)
    rwa [Int.toNat_of_nonneg a1] at this
  have gb : atI (zs.map IV.str) f = some (.str zs[f.toNat]) := by
    have := atI_nat (xs := zs.map IV.str) (k := f.toNat) (v := .str zs[f.toNat]) (by rw [List.getElem?_map, List.getElem?_eq_getElem ib]; rfl)
    rwa [Int.toNat_of_nonneg f1] at this
  generalize zs[e.toNat] = a at *
  generalize zs[f.toNat] = b at *
  have cm : ∀ i, cMod i (zs.length : Int) = true := fun i => cMod_p (by omega)
  rcases w7 w hw with rfl | rfl | ⟨hw', n1, n2⟩
  · obtain ⟨y, hp4, e4, hy, H4, K4, L4⟩ := s_any (vs := zs.map IV.str) (r := .f (zs.map IV.str)) H3 (.inr rfl) (by rw [List.length_map]; omega) (by rw [List.length_map]; omega)
    obtain ⟨c, hc, rfl⟩ := List.mem_map.mp hy
    obtain ⟨m, hp5, e5, m1, m2, H5, K5, L5⟩ := s_draw (n := 2) H4 (by decide) (by decide)
    have q1 := fun s => eq_ss (s := s) (neg := false) oks_most oks_most
    have q2 := @ev_Sort3
    refine ⟨.tup [.str "most", .tup ((sortU [a, b, c]).map .str), .int (1 + m)], hp5, ?_, .most up_sortU ?_ ?_ ?_ (by omega) (by omega), H5, (((K1.trans K2).trans K3).trans K4).trans K5, by omega⟩
    · rw [v_law_rule, u_law_rule]
      clear H H1 H2 H3 H4 H5 K1 K2 K3 K4 K5 L1 L2 L3 L4 L5 hx hy hw hz up ma mb nab hc a1 a2 b1 b2 m1 m2 f1 f2 f3 h2 h4 ia ib
      walk_at "py"
    · intro z hz
      rw [mem_sortU] at hz
      simp only [List.mem_cons, List.not_mem_nil, or_false] at hz
      rcases hz with rfl | rfl | rfl
      · exact ma
      · exact mb
      · exact hc
    · have h1 : a ∈ sortU [a, b, c] := mem_sortU.mpr (List.mem_cons_self ..)
      have h2 : b ∈ sortU [a, b, c] := mem_sortU.mpr (List.mem_cons_of_mem _ (List.mem_cons_self ..))
      match hs : sortU [a, b, c] with
      | [] => 
        rw [hs] at h1
        exact absurd h1 List.not_mem_nil
      | [z] => 
        rw [hs] at h1 h2
        exact absurd ((List.mem_singleton.mp h1).trans (List.mem_singleton.mp h2).symm) nab
      | _ :: _ :: _ => 
        rw [List.length_cons, List.length_cons]
        omega
    · have hl : ∀ (k : Str) (l : List Str), (insS k l).length ≤ l.length + 1 := by
        intro k l
        induction l with
        | nil => exact Nat.le_refl _
        | cons x l ih =>
          rw [insS]
          split
          · omega
          · split
            · exact Nat.le_refl _
            · rw [List.length_cons, List.length_cons]
              omega
      have h1 := hl c []
      have h2 := hl b (insS c [])
      have h3 := hl a (insS b (insS c []))
      show (insS a (insS b (insS c []))).length ≤ 3
      rw [List.length_nil] at h1
      omega
  · obtain ⟨m, hp5, e5, m1, m2, H5, K5, L5⟩ := s_draw (n := 2) H3 (by decide) (by decide)
    have q1 := fun s => eq_ss (s := s) (neg := false) oks_gap oks_most
    have q2 := fun s => eq_ss (s := s) (neg := false) oks_gap oks_gap
    have q3 := ne_gm
    have q4 : ∀ (x y z u : IV) (s : S), gCatT [.v (.tup [x, y, z]), .v (.tup [u])] s = .ok (.v (.tup [x, y, z, u])) s := fun _ _ _ _ _ => ev_CatT (Nat.le_of_ble_eq_true rfl)
    refine ⟨.tup [.str "gap", .str a, .str b, .int (1 + m)], hp5, ?_, .gap ma mb nab (by omega) (by omega), H5, ((K1.trans K2).trans K3).trans K5, by omega⟩
    rw [v_law_rule, u_law_rule]
    clear H H1 H2 H3 H5 K1 K2 K3 K5 L1 L2 L3 L5 hx hw hz up ma mb nab a1 a2 b1 b2 m1 m2 f1 f2 f3 h2 h4 ia ib
    walk_at "py"
  · have q1 := fun s => eq_ss (s := s) (neg := false) (ok_p5 w hw') oks_most
    have q2 := fun s => eq_ss (s := s) (neg := false) (ok_p5 w hw') oks_gap
    have q4 : ∀ (x y z : IV) (s : S), gCatT [.v (.tup [x, y, z]), .v (.tup [])] s = .ok (.v (.tup [x, y, z])) s := fun _ _ _ _ => ev_CatT (Nat.le_of_ble_eq_true rfl)
    refine ⟨.tup [.str w, .str a, .str b], hp3, ?_, .pair hw' ma mb nab, H3, (K1.trans K2).trans K3, by omega⟩
    rw [v_law_rule, u_law_rule]
    clear H H1 H2 H3 K1 K2 K3 L1 L2 L3 hx hw hz up ma mb nab a1 a2 b1 b2 f1 f2 f3 h2 h4 ia ib hw'
    walk_at "py"
end

end Py

set_option Elab.async false
set_option linter.all false
set_option maxRecDepth 100000
set_option maxHeartbeats 4000000
namespace Py
open PySem PySem.Spec PyProof.Rows L2
local macro_rules | `(tactic| walk_at "py") => `(tactic| simp only [ev_C, ev_tr, ev_Nx, ev_Rd, kRd1, ev_N, kN1, kN2, kG1, ev_L0, ev_L1, kL1a, kL1b, kL2a, kL2b, ev_nm, kNm1, ev_ex, kX1, kX2, kX3, ev_T, kT1, kT2, ev_B, kB1a, ev_And, ev_Or, ev_Not, kNot1, ev_If, ev_IfS, kIf1, kIf2, kIf3, ev_Seq, kSeq1, kSeq2, kSeq3, ev_Drop, kDrop1, kDrop2, ev_Set, kSet1, kSet2, ev_Ret, kRet1, kRet2, kRet3, ev_Par, ev_pL0, ev_pL1, kPut1, ev_put1, ev_put2, ev_Asg, kAsg1, kAs2a, ev_Box, kBox1, kBox2, ev_Call, ev_gCall, kCall1, kCall2, ev_Make, ev_gMake, kMk1, ev_Raise, ev_rdL0, ev_rdL1, kC1, ev_rdl, ev_rdr, ev_rdS, kR1, kR2, kR3, kR4, ev_sq1, ev_sq2, ev_sq3, ev_sq4, ev_I2, ev_I1, ev_Abs, ev_Int, ev_At, kAt1, kV1, ev_Len1, ev_Len2, ev_Len3, ev_Tuple, kTu1, ev_List, kLi1, ev_bx0, ev_bx1, ev_bx2, kB1b, ev_bv1, ev_Tup, ev_Lst, kTup_0, kLst_0, kTup_1, kLst_1, kTup_2, kLst_2, kTup_3, kLst_3, kTup_4, kLst_4, kTup_5, kLst_5, kTup_6, kLst_6, kTup_7, kLst_7, kApp1, kAp2a, ev_IsN, ev_IsT, ev_IsT2, kIs1, kIs2a, ev_ty1, ev_ty2, ev_ty3, ev_ty4, ev_ty5, ev_ty7, ev_ty8, ev_SlH, ev_SlL, fSl1, fSl2, fSl3, fSl4, ev_sN, atI_0, atI_1, atI_2, atI_3, atI_4, atI_5, kFor1, kFor2, fin1, fin2, fin3, fin4, ev_Ch, kCh1a, kCh2a, kCh3a, kCh4a, kCh5a, ev_I2c, ev_sq5, ev_ty6, ev_LenS, ev_Len4, ev_CatT, ev_CatL, kTup1, kLst1, kAp3a, ev_App, kAp0a, beq_self_eq_true, isL1, kSq1, kTy1, kTy2, kLe1, ev_Fl, kFl1, kFl2a, ev_SI, kSI1, kSI2a, ev_SF, kSF1, kSF2a, List.length_map, ev_All, List.getElem?_cons_zero, List.getElem?_cons_succ, List.set_cons_zero, List.set_cons_succ, Bool.not_true, Bool.not_false, isa, decide_true, decide_false, Bool.false_eq_true, if_true, if_false, setT, setNs, Option.map_some, isNon, Bool.or_true, Bool.or_false, Bool.true_or, Bool.false_or, ite_true, ite_false, ev_Lk, kLk2, *])
/-! Q9: a drawn plan. -/
abbrev rows3 : List Str := ["big", "lab", "red"]
abbrev folk3 : List Str := ["ann", "bob", "cat"]
abbrev less4 : List Str := ["art", "bio", "che", "dut"]
def KsOk (ks : List Str) : Prop := ks.length ≤ 1 ∧ ∀ z ∈ ks, nmB z = true
def Lot (N : Int) (cl : List Int) : Prop := (∀ i ∈ cl, 0 ≤ i ∧ i < N) ∧ (cl.Pairwise fun a b => a < b) ∧ cl.length ≤ 100
theorem Lot.sub {N : Int} {a b : List Int} (L : Lot N b) (h : a.Sublist b) : Lot N a := ⟨fun i hi => L.1 i (h.subset hi), L.2.1.sublist h, Nat.le_trans h.length_le L.2.2⟩
def RoomD (N : Int) (q : Str × IV) : Prop := ∃ (i : Int) (ks : List Str) (cl : List Int), q.2 = .tup [.str q.1, .int i, .tup (ks.map .str), .tup (cl.map .int)] ∧ 0 ≤ i ∧ i ≤ 999 ∧ KsOk ks ∧ Lot N cl
def PersonD (N : Int) (q : Str × IV) : Prop := ∃ (ab : List Int) (m : Int), q.2 = .tup [.str q.1, .tup (ab.map .int), .int m] ∧ 0 ≤ m ∧ m ≤ 12 ∧ Lot N ab
def LessonD (N : Int) (pn : List Str) (q : Str × IV) : Prop := ∃ (len : Int) (folk : List Str) (i : Int) (ks : List Str) (st : List Int), q.2 = .tup [.str q.1, .int len, .tup (folk.map .str), .int i, .tup (ks.map .str), .tup (st.map .int)] ∧
  1 ≤ len ∧ len ≤ 4 ∧ folk.Sublist pn ∧ 0 ≤ i ∧ i ≤ 999 ∧ KsOk ks ∧ Lot N st
theorem pc_ok : nmB "pc" = true := by decide +kernel
section
variable {hp hp' hp1 hp2 : List IO} {h : Nat} {N : Int} {R : List IV} {js : List Int} {z : Str} {e1 e2 e3 e4 e6 e7 e8 e9 e10 e11 e12 e13 e14 e15 e16 e17 : Option RV}
theorem dr_b1 (H : Hand hp h) (hR : R.length < 1000) (hj : Lot N js) :
    ∃ (x : IV) (hp' : List IO) (b c : Option RV), d_law_drawn_1 ⟨[some (.v (.ref h)), e1, e2, e3, e4, some (.l (js.map .int)), some (.l R), e7, e8, e9, some (.v (.str z)), e11, e12, e13, e14, e15, e16, e17], hp⟩ =
      .ok .nx ⟨[some (.v (.ref h)), e1, e2, e3, e4, some (.l (js.map .int)), some (.l (R ++ [x])), e7, e8, e9, some (.v (.str z)), b, c, e13, e14, e15, e16, e17], hp'⟩ ∧ RoomD N (z, x) ∧ Hand hp' h ∧ Kp h hp hp' ∧ hp'.length = hp.length := by
  obtain ⟨x1, hp1, a1, hx1, H1, K1, L1⟩ := s_any (vs := [.int 5, .int 20, .int 20, .int 30]) (r := .l [.int 5, .int 20, .int 20, .int 30]) H (.inl rfl) (by exact Nat.zero_lt_succ _) (Nat.le_of_ble_eq_true rfl)
  obtain ⟨i, rfl, i1, i2⟩ : ∃ i : Int, x1 = .int i ∧ 0 ≤ i ∧ i ≤ 999 := by
    simp only [List.mem_cons, List.not_mem_nil, or_false] at hx1
    rcases hx1 with rfl | rfl | rfl | rfl <;> exact ⟨_, rfl, by decide, by decide⟩
  obtain ⟨x2, hp2, a2, hx2, H2, K2, L2⟩ := s_any (vs := [.tup [], .tup [], .tup [.str "pc"]]) (r := .l [.tup [], .tup [], .tup [.str "pc"]]) H1 (.inl rfl) (by exact Nat.zero_lt_succ _) (Nat.le_of_ble_eq_true rfl)
  obtain ⟨ks, rfl, hk⟩ : ∃ ks : List Str, x2 = .tup (ks.map .str) ∧ KsOk ks := by
    simp only [List.mem_cons, List.not_mem_nil, or_false] at hx2
    rcases hx2 with rfl | rfl | rfl
    · exact ⟨[], rfl, Nat.zero_le _, fun z hz => absurd hz List.not_mem_nil⟩
    · exact ⟨[], rfl, Nat.zero_le _, fun z hz => absurd hz List.not_mem_nil⟩
    · exact ⟨["pc"], rfl, Nat.le_refl _, fun z hz => by rw [List.mem_singleton.mp hz]; exact pc_ok⟩
  obtain ⟨cl, hp3, a3, hcl, H3, K3, L3⟩ := s_some (n := 6) (js := js) H2 (by decide) (by decide) (by have := hj.2.2; omega)
  have hR' : R.length < 100000 := by omega
  refine ⟨.tup [.str z, .int i, .tup (ks.map .str), .tup (cl.map .int)], hp3, some (.v (.int i)), some (.v (.tup (ks.map .str))), ?_, ⟨i, ks, cl, rfl, i1, i2, hk, hj.sub hcl⟩, H3, (K1.trans K2).trans K3, by omega⟩
  unfold d_law_drawn_1
  clear H H1 H2 H3 K1 K2 K3 L1 L2 L3 hx1 hx2 hk hcl hj i1 i2
  walk_at "py"
theorem dr_b2 (H : Hand hp h) (hR : R.length < 1000) (hj : Lot N js) :
    ∃ (x : IV) (hp' : List IO), d_law_drawn_2 ⟨[some (.v (.ref h)), e1, e2, e3, e4, some (.l (js.map .int)), e6, some (.l R), e8, e9, some (.v (.str z)), e11, e12, e13, e14, e15, e16, e17], hp⟩ =
      .ok .nx ⟨[some (.v (.ref h)), e1, e2, e3, e4, some (.l (js.map .int)), e6, some (.l (R ++ [x])), e8, e9, some (.v (.str z)), e11, e12, e13, e14, e15, e16, e17], hp'⟩ ∧ PersonD N (z, x) ∧ Hand hp' h ∧ Kp h hp hp' ∧ hp'.length = hp.length := by
  obtain ⟨ab, hp1, a1, hab, H1, K1, L1⟩ := s_some (n := 7) (js := js) H (by decide) (by decide) (by have := hj.2.2; omega)
  obtain ⟨x1, hp2, a2, hx1, H2, K2, L2⟩ := s_any (vs := [.int 12, .int 12, .int 3, .int 2, .int 1]) (r := .l [.int 12, .int 12, .int 3, .int 2, .int 1]) H1 (.inl rfl) (by exact Nat.zero_lt_succ _) (Nat.le_of_ble_eq_true rfl)
  obtain ⟨i, rfl, i1, i2⟩ : ∃ i : Int, x1 = .int i ∧ 0 ≤ i ∧ i ≤ 12 := by
    simp only [List.mem_cons, List.not_mem_nil, or_false] at hx1
    rcases hx1 with rfl | rfl | rfl | rfl | rfl <;> exact ⟨_, rfl, by decide, by decide⟩
  have hR' : R.length < 100000 := by omega
  refine ⟨.tup [.str z, .tup (ab.map .int), .int i], hp2, ?_, ⟨ab, i, rfl, i1, i2, hj.sub hab⟩, H2, K1.trans K2, by omega⟩
  unfold d_law_drawn_2
  clear H H1 H2 K1 K2 L1 L2 hx1 hab hj i1 i2
  walk_at "py"
theorem dr_c3 {ps : List (Str × IV)} (H : Hand hp h) (hR : ps.length ≤ 100) (hn : ∀ q ∈ ps, Nmd q) :
    ∃ (folk : List Str) (hp' : List IO), c_law_drawn_3 ⟨[some (.v (.ref h)), e1, e2, e3, e4, some (.l (js.map .int)), e6, some (.l (ps.map (·.2))), e8, e9, e10, e11, e12, e13, e14, e15, e16, none], hp⟩ =
      .ok (.l (folk.map .str)) ⟨[some (.v (.ref h)), e1, e2, e3, e4, some (.l (js.map .int)), e6, some (.l (ps.map (·.2))), e8, e9, e10, e11, e12, e13, e14, e15, e16, none], hp'⟩ ∧ folk.Sublist (ps.map (·.1)) ∧ Hand hp' h ∧ Kp h hp hp' ∧ hp'.length = hp.length := by
  obtain ⟨acc, s', e, ks, hp', rfl, sb, rfl, H', K, L⟩ : ∃ acc s', c_law_drawn_3 ⟨[some (.v (.ref h)), e1, e2, e3, e4, some (.l (js.map .int)), e6, some (.l (ps.map (·.2))), e8, e9, e10, e11, e12, e13, e14, e15, e16, none], hp⟩ = .ok (.l acc) s' ∧
      ∃ (ks : List Str) (hp' : List IO), acc = ks.map .str ∧ ks.Sublist ((ps.map (·.1)).take (ps.map (·.2)).length) ∧ s' = ⟨[some (.v (.ref h)), e1, e2, e3, e4, some (.l (js.map .int)), e6, some (.l (ps.map (·.2))), e8, e9, e10, e11, e12, e13, e14, e15, e16, none], hp'⟩ ∧ Hand hp' h ∧ Kp h hp hp' ∧ hp'.length = hp.length := by
    refine lc_inv (s1 := ⟨[some (.v (.ref h)), e1, e2, e3, e4, some (.l (js.map .int)), e6, some (.l (ps.map (·.2))), e8, e9, e10, e11, e12, e13, e14, e15, e16, none], hp⟩) (src := srcOf false (.inl 7)) (vs := ps.map (·.2)) (fun k acc s' => ∃ (ks : List Str) (hp' : List IO), acc = ks.map .str ∧ ks.Sublist ((ps.map (·.1)).take k) ∧ s' = ⟨[some (.v (.ref h)), e1, e2, e3, e4, some (.l (js.map .int)), e6, some (.l (ps.map (·.2))), e8, e9, e10, e11, e12, e13, e14, e15, e16, none], hp'⟩ ∧ Hand hp' h ∧ Kp h hp hp' ∧ hp'.length = hp.length)
      ?_ ?_ ?_ ?_ ?_ ?_
    · rfl
    · exact ⟨[], hp, rfl, List.nil_sublist _, rfl, H, Kp.refl, rfl⟩
    · rfl
    · rw [List.length_map]
      omega
    · rintro k acc s ⟨ks, hp', rfl, _, rfl, _⟩
      rfl
    · rintro k x acc s hx ⟨ks, hp1, rfl, sb, rfl, H1, K1, L1⟩
      rw [List.getElem?_map] at hx
      obtain ⟨q, hq, rfl⟩ := Option.map_eq_some_iff.mp hx
      obtain ⟨_, us, hu⟩ := hn q (List.mem_of_getElem? hq)
      obtain ⟨d, hp2, e, d1, d2, H2, K2, L2⟩ := s_draw (n := 2) H1 (by decide) (by decide)
      refine ⟨_, rfl, ?_⟩
      rw [hu]
      have l2 := @eq_ii
      by_cases hd : d = 0
      · subst hd
        right
        have b1 : ((0 : Int) == 0) = true := rfl
        refine ⟨⟨[some (.v (.ref h)), e1, e2, e3, e4, some (.l (js.map .int)), e6, some (.l (ps.map (·.2))), e8, e9, e10, e11, e12, e13, e14, e15, e16, some (.v (.tup (.str q.1 :: us)))], hp2⟩, ⟨[some (.v (.ref h)), e1, e2, e3, e4, some (.l (js.map .int)), e6, some (.l (ps.map (·.2))), e8, e9, e10, e11, e12, e13, e14, e15, e16, some (.v (.tup (.str q.1 :: us)))], hp2⟩, .str q.1, ?_, ?_, ks ++ [q.1], hp2, by rw [List.map_append]; rfl, ?_, rfl, H2, K1.trans K2, by omega⟩
        · clear H1 H2 K1 K2 sb hx hq L1 L2 d1 d2 hu hn
          walk_at "py"
        · clear H1 H2 K1 K2 sb hx hq L1 L2 d1 d2 hu hn
          walk_at "py"
        · rw [List.take_succ, List.getElem?_map, hq]
          exact List.Sublist.append sb (List.Sublist.refl _)
      · left
        have b1 : (d == 0) = false := by
          rw [beq_eq_false_iff_ne]
          exact hd
        refine ⟨⟨[some (.v (.ref h)), e1, e2, e3, e4, some (.l (js.map .int)), e6, some (.l (ps.map (·.2))), e8, e9, e10, e11, e12, e13, e14, e15, e16, some (.v (.tup (.str q.1 :: us)))], hp2⟩, ?_, ks, hp2, rfl, ?_, rfl, H2, K1.trans K2, by omega⟩
        · clear H1 H2 K1 K2 sb hx hq L1 L2 d1 d2 hu hn
          walk_at "py"
        · rw [List.take_succ]
          exact List.Sublist.trans sb (List.sublist_append_left ..)
  rw [List.length_map, show ps.length = (ps.map (·.1)).length by rw [List.length_map], List.take_length] at sb
  exact ⟨ks, hp', e, sb, H', K, L⟩
theorem dr_b4 {ps : List (Str × IV)} (H : Hand hp h) (hR : R.length < 1000) (hj : Lot N js) (hp9 : ps.length ≤ 100) (hn : ∀ q ∈ ps, Nmd q) :
    ∃ (x : IV) (hp' : List IO) (b c d : Option RV), d_law_drawn_4 ⟨[some (.v (.ref h)), e1, e2, e3, e4, some (.l (js.map .int)), e6, some (.l (ps.map (·.2))), some (.l R), e9, some (.v (.str z)), e11, e12, e13, e14, e15, e16, none], hp⟩ =
      .ok .nx ⟨[some (.v (.ref h)), e1, e2, e3, e4, some (.l (js.map .int)), e6, some (.l (ps.map (·.2))), some (.l (R ++ [x])), e9, some (.v (.str z)), b, c, d, e14, e15, e16, none], hp'⟩ ∧ LessonD N (ps.map (·.1)) (z, x) ∧ Hand hp' h ∧ Kp h hp hp' ∧ hp'.length = hp.length := by
  obtain ⟨folk, hp1, a1, hf, H1, K1, L1⟩ := dr_c3 (js := js) (e1 := e1) (e2 := e2) (e3 := e3) (e4 := e4) (e6 := e6) (e8 := some (.l R)) (e9 := e9) (e10 := some (.v (.str z))) (e11 := e11) (e12 := e12) (e13 := e13) (e14 := e14) (e15 := e15) (e16 := e16) H hp9 hn
  obtain ⟨x2, hp2, a2, hx2, H2, K2, L2⟩ := s_any (vs := [.tup [], .tup [], .tup [], .tup [.str "pc"]]) (r := .l [.tup [], .tup [], .tup [], .tup [.str "pc"]]) H1 (.inl rfl) (by exact Nat.zero_lt_succ _) (Nat.le_of_ble_eq_true rfl)
  obtain ⟨ks, rfl, hk⟩ : ∃ ks : List Str, x2 = .tup (ks.map .str) ∧ KsOk ks := by
    simp only [List.mem_cons, List.not_mem_nil, or_false] at hx2
    rcases hx2 with rfl | rfl | rfl | rfl
    · exact ⟨[], rfl, Nat.zero_le _, fun z hz => absurd hz List.not_mem_nil⟩
    · exact ⟨[], rfl, Nat.zero_le _, fun z hz => absurd hz List.not_mem_nil⟩
    · exact ⟨[], rfl, Nat.zero_le _, fun z hz => absurd hz List.not_mem_nil⟩
    · exact ⟨["pc"], rfl, Nat.le_refl _, fun z hz => by rw [List.mem_singleton.mp hz]; exact pc_ok⟩
  obtain ⟨x3, hp3, a3, hx3, H3, K3, L3⟩ := s_any (vs := [.int 0, .int 0, .int 5, .int 20]) (r := .l [.int 0, .int 0, .int 5, .int 20]) H2 (.inl rfl) (by exact Nat.zero_lt_succ _) (Nat.le_of_ble_eq_true rfl)
  obtain ⟨i, rfl, i1, i2⟩ : ∃ i : Int, x3 = .int i ∧ 0 ≤ i ∧ i ≤ 999 := by
    simp only [List.mem_cons, List.not_mem_nil, or_false] at hx3
    rcases hx3 with rfl | rfl | rfl | rfl <;> exact ⟨_, rfl, by decide, by decide⟩
  obtain ⟨x4, hp4, a4, hx4, H4, K4, L4⟩ := s_any (vs := [.int 1, .int 1, .int 1, .int 2]) (r := .l [.int 1, .int 1, .int 1, .int 2]) H3 (.inl rfl) (by exact Nat.zero_lt_succ _) (Nat.le_of_ble_eq_true rfl)
  obtain ⟨len, rfl, n1, n2⟩ : ∃ i : Int, x4 = .int i ∧ 1 ≤ i ∧ i ≤ 4 := by
    simp only [List.mem_cons, List.not_mem_nil, or_false] at hx4
    rcases hx4 with rfl | rfl | rfl | rfl <;> exact ⟨_, rfl, by decide, by decide⟩
  obtain ⟨st, hp5, a5, hst, H5, K5, L5⟩ := s_some (n := 2) (js := js) H4 (by decide) (by decide) (by have := hj.2.2; omega)
  have hR' : R.length < 100000 := by omega
  refine ⟨.tup [.str z, .int len, .tup (folk.map .str), .int i, .tup (ks.map .str), .tup (st.map .int)], hp5, some (.v (.int i)), some (.v (.tup (ks.map .str))), some (.v (.tup (folk.map .str))), ?_, ⟨len, folk, i, ks, st, rfl, n1, n2, hf, i1, i2, hk, hj.sub hst⟩, H5, (((K1.trans K2).trans K3).trans K4).trans K5, by omega⟩
  unfold d_law_drawn_4
  clear H H1 H2 H3 H4 H5 K1 K2 K3 K4 K5 L1 L2 L3 L4 L5 hx2 hx3 hx4 hk hst hf hj i1 i2 n1 n2 hn
  walk_at "py"
end

end Py

set_option Elab.async false
set_option linter.all false
set_option maxRecDepth 100000
set_option maxHeartbeats 4000000
namespace Py
open PySem PySem.Spec PyProof.Rows L2
local macro_rules | `(tactic| walk_at "py") => `(tactic| simp only [ev_C, ev_tr, ev_Nx, ev_Rd, kRd1, ev_N, kN1, kN2, kG1, ev_L0, ev_L1, kL1a, kL1b, kL2a, kL2b, ev_nm, kNm1, ev_ex, kX1, kX2, kX3, ev_T, kT1, kT2, ev_B, kB1a, ev_And, ev_Or, ev_Not, kNot1, ev_If, ev_IfS, kIf1, kIf2, kIf3, ev_Seq, kSeq1, kSeq2, kSeq3, ev_Drop, kDrop1, kDrop2, ev_Set, kSet1, kSet2, ev_Ret, kRet1, kRet2, kRet3, ev_Par, ev_pL0, ev_pL1, kPut1, ev_put1, ev_put2, ev_Asg, kAsg1, kAs2a, ev_Box, kBox1, kBox2, ev_Call, ev_gCall, kCall1, kCall2, ev_Make, ev_gMake, kMk1, ev_Raise, ev_rdL0, ev_rdL1, kC1, ev_rdl, ev_rdr, ev_rdS, kR1, kR2, kR3, kR4, ev_sq1, ev_sq2, ev_sq3, ev_sq4, ev_I2, ev_I1, ev_Abs, ev_Int, ev_At, kAt1, kV1, ev_Len1, ev_Len2, ev_Len3, ev_Tuple, kTu1, ev_List, kLi1, ev_bx0, ev_bx1, ev_bx2, kB1b, ev_bv1, ev_Tup, ev_Lst, kTup_0, kLst_0, kTup_1, kLst_1, kTup_2, kLst_2, kTup_3, kLst_3, kTup_4, kLst_4, kTup_5, kLst_5, kTup_6, kLst_6, kTup_7, kLst_7, kApp1, kAp2a, ev_IsN, ev_IsT, ev_IsT2, kIs1, kIs2a, ev_ty1, ev_ty2, ev_ty3, ev_ty4, ev_ty5, ev_ty7, ev_ty8, ev_SlH, ev_SlL, fSl1, fSl2, fSl3, fSl4, ev_sN, atI_0, atI_1, atI_2, atI_3, atI_4, atI_5, kFor1, kFor2, fin1, fin2, fin3, fin4, ev_Ch, kCh1a, kCh2a, kCh3a, kCh4a, kCh5a, ev_I2c, ev_sq5, ev_ty6, ev_LenS, ev_Len4, ev_CatT, ev_CatL, kTup1, kLst1, kAp3a, ev_App, kAp0a, beq_self_eq_true, isL1, kSq1, kTy1, kTy2, kLe1, ev_Fl, kFl1, kFl2a, ev_SI, kSI1, kSI2a, ev_SF, kSF1, kSF2a, List.length_map, ev_All, List.getElem?_cons_zero, List.getElem?_cons_succ, List.set_cons_zero, List.set_cons_succ, Bool.not_true, Bool.not_false, isa, decide_true, decide_false, Bool.false_eq_true, if_true, if_false, setT, setNs, Option.map_some, isNon, Bool.or_true, Bool.or_false, Bool.true_or, Bool.false_or, ite_true, ite_false, ev_Lk, kLk2, *])
/-! Q10: the whole plan. -/
section
variable {hp hp' hp1 hp2 : List IO} {h : Nat} {N : Int} {R : List IV} {js : List Int} {z : Str} {e1 e2 e3 e4 e6 e7 e8 e9 e10 e11 e12 e13 e14 e15 e16 e17 : Option RV}
theorem cut_n {zs : List Str} {k : Int} (h : 0 ≤ k) : cutI (zs.map IV.str) none (some k) = (zs.take k.toNat).map IV.str := by
  have := cutI_H (vs := zs.map IV.str) k.toNat
  rw [Int.toNat_of_nonneg h] at this
  rw [this, List.map_take]
theorem tk_next {zs : List Str} {k : Nat} {z : Str} (h : zs[k]? = some z) : zs.take (k + 1) = zs.take k ++ [z] := by
  rw [List.take_succ, h]
  rfl
theorem len_of {rs : List (Str × IV)} {zs : List Str} {k : Nat} (h : rs.map (·.1) = zs.take k) : rs.length ≤ zs.length := by
  have := congrArg List.length h
  rw [List.length_map, List.length_take] at this
  omega
theorem dr_l1 (H : Hand hp h) (hj : Lot N js) :
    ∃ (rs : List (Str × IV)) (m : Nat) (hp' : List IO) (a b c : Option RV), c_law_drawn_1 ⟨[some (.v (.ref h)), e1, e2, e3, e4, some (.l (js.map .int)), some (.l []), e7, e8, e9, e10, e11, e12, e13, e14, e15, e16, e17], hp⟩ =
      .ok .nx ⟨[some (.v (.ref h)), e1, e2, e3, e4, some (.l (js.map .int)), some (.l (rs.map (·.2))), e7, e8, e9, a, b, c, e13, e14, e15, e16, e17], hp'⟩ ∧ rs.map (·.1) = rows3.take m ∧ (∀ q ∈ rs, RoomD N q) ∧ Hand hp' h ∧ Kp h hp hp' ∧ hp'.length = hp.length := by
  obtain ⟨k, hp1, a1, k1, k2, H1, K1, L1⟩ := s_draw (n := 2) H (by decide) (by decide)
  have hc : cutI [.str "big", .str "lab", .str "red"] none (some (1 + k)) = (rows3.take (1 + k).toNat).map IV.str := cut_n (zs := rows3) (by omega)
  obtain ⟨s', e, rs, hp', a, b, c, rfl, r1, r2, H', K', L'⟩ : ∃ s', c_law_drawn_1 ⟨[some (.v (.ref h)), e1, e2, e3, e4, some (.l (js.map .int)), some (.l []), e7, e8, e9, e10, e11, e12, e13, e14, e15, e16, e17], hp⟩ = .ok .nx s' ∧
      ∃ (rs : List (Str × IV)) (hp' : List IO) (a b c : Option RV), s' = ⟨[some (.v (.ref h)), e1, e2, e3, e4, some (.l (js.map .int)), some (.l (rs.map (·.2))), e7, e8, e9, a, b, c, e13, e14, e15, e16, e17], hp'⟩ ∧
        rs.map (·.1) = (rows3.take (1 + k).toNat).take ((rows3.take (1 + k).toNat).map IV.str).length ∧ (∀ q ∈ rs, RoomD N q) ∧ Hand hp' h ∧ Kp h hp hp' ∧ hp'.length = hp.length := by
    refine for_inv (s1 := ⟨[some (.v (.ref h)), e1, e2, e3, e4, some (.l (js.map .int)), some (.l []), e7, e8, e9, e10, e11, e12, e13, e14, e15, e16, e17], hp1⟩) (src := srcOf false (.inr (.l ((rows3.take (1 + k).toNat).map IV.str)))) (vs := (rows3.take (1 + k).toNat).map IV.str)
      (fun n s' => ∃ (rs : List (Str × IV)) (hp' : List IO) (a b c : Option RV), s' = ⟨[some (.v (.ref h)), e1, e2, e3, e4, some (.l (js.map .int)), some (.l (rs.map (·.2))), e7, e8, e9, a, b, c, e13, e14, e15, e16, e17], hp'⟩ ∧
        rs.map (·.1) = (rows3.take (1 + k).toNat).take n ∧ (∀ q ∈ rs, RoomD N q) ∧ Hand hp' h ∧ Kp h hp hp' ∧ hp'.length = hp.length) ?_ ?_ ?_ ?_
    · refine its_exl ?_
      clear H H1 K1 L1 k1 k2 hj
      walk_at "py"
    · exact ⟨[], hp1, e10, e11, e12, rfl, rfl, fun q hq => absurd hq List.not_mem_nil, H1, K1, L1⟩
    · rintro n s ⟨rs, hp', a, b, c, rfl, _⟩
      rfl
    · rintro n x s hx ⟨rs, hp', a, b, c, rfl, r1, r2, H', K', L'⟩
      rw [List.getElem?_map] at hx
      obtain ⟨z, hz, rfl⟩ := Option.map_eq_some_iff.mp hx
      have hR : (rs.map (·.2)).length < 1000 := by
        have := len_of r1
        rw [List.length_take] at this
        rw [List.length_map]
        have h3 : rows3.length = 3 := rfl
        omega
      obtain ⟨y, hp2, b', c', f1, f2, f3, f4, f5⟩ := dr_b1 (e1 := e1) (e2 := e2) (e3 := e3) (e4 := e4) (e7 := e7) (e8 := e8) (e9 := e9) (e11 := b) (e12 := c) (e13 := e13) (e14 := e14) (e15 := e15) (e16 := e16) (e17 := e17) (z := z) H' hR hj
      refine ⟨_, _, rfl, f1, rs ++ [(z, y)], hp2, some (.v (.str z)), b', c', by rw [List.map_append]; rfl, ?_, ?_, f3, K'.trans f4, by omega⟩
      · rw [List.map_append, r1, tk_next hz]
        rfl
      · intro q hq
        rcases List.mem_append.mp hq with hq | hq
        · exact r2 q hq
        · rw [List.mem_singleton.mp hq]
          exact f2
  rw [List.length_map, List.take_length] at r1
  exact ⟨rs, (1 + k).toNat, hp', a, b, c, e, r1, r2, H', K', L'⟩
theorem dr_l2 (H : Hand hp h) (hj : Lot N js) :
    ∃ (rs : List (Str × IV)) (m : Nat) (hp' : List IO) (a : Option RV), c_law_drawn_2 ⟨[some (.v (.ref h)), e1, e2, e3, e4, some (.l (js.map .int)), e6, some (.l []), e8, e9, e10, e11, e12, e13, e14, e15, e16, e17], hp⟩ =
      .ok .nx ⟨[some (.v (.ref h)), e1, e2, e3, e4, some (.l (js.map .int)), e6, some (.l (rs.map (·.2))), e8, e9, a, e11, e12, e13, e14, e15, e16, e17], hp'⟩ ∧ rs.map (·.1) = folk3.take m ∧ (∀ q ∈ rs, PersonD N q) ∧ Hand hp' h ∧ Kp h hp hp' ∧ hp'.length = hp.length := by
  obtain ⟨k, hp1, a1, k1, k2, H1, K1, L1⟩ := s_draw (n := 4) H (by decide) (by decide)
  have hc : cutI [.str "ann", .str "bob", .str "cat"] none (some k) = (folk3.take k.toNat).map IV.str := cut_n (zs := folk3) (by omega)
  obtain ⟨s', e, rs, hp', a, rfl, r1, r2, H', K', L'⟩ : ∃ s', c_law_drawn_2 ⟨[some (.v (.ref h)), e1, e2, e3, e4, some (.l (js.map .int)), e6, some (.l []), e8, e9, e10, e11, e12, e13, e14, e15, e16, e17], hp⟩ = .ok .nx s' ∧
      ∃ (rs : List (Str × IV)) (hp' : List IO) (a : Option RV), s' = ⟨[some (.v (.ref h)), e1, e2, e3, e4, some (.l (js.map .int)), e6, some (.l (rs.map (·.2))), e8, e9, a, e11, e12, e13, e14, e15, e16, e17], hp'⟩ ∧
        rs.map (·.1) = (folk3.take k.toNat).take ((folk3.take k.toNat).map IV.str).length ∧ (∀ q ∈ rs, PersonD N q) ∧ Hand hp' h ∧ Kp h hp hp' ∧ hp'.length = hp.length := by
    refine for_inv (s1 := ⟨[some (.v (.ref h)), e1, e2, e3, e4, some (.l (js.map .int)), e6, some (.l []), e8, e9, e10, e11, e12, e13, e14, e15, e16, e17], hp1⟩) (src := srcOf false (.inr (.l ((folk3.take k.toNat).map IV.str)))) (vs := (folk3.take k.toNat).map IV.str)
      (fun n s' => ∃ (rs : List (Str × IV)) (hp' : List IO) (a : Option RV), s' = ⟨[some (.v (.ref h)), e1, e2, e3, e4, some (.l (js.map .int)), e6, some (.l (rs.map (·.2))), e8, e9, a, e11, e12, e13, e14, e15, e16, e17], hp'⟩ ∧
        rs.map (·.1) = (folk3.take k.toNat).take n ∧ (∀ q ∈ rs, PersonD N q) ∧ Hand hp' h ∧ Kp h hp hp' ∧ hp'.length = hp.length) ?_ ?_ ?_ ?_
    · refine its_exl ?_
      clear H H1 K1 L1 k1 k2 hj
      walk_at "py"
    · exact ⟨[], hp1, e10, rfl, rfl, fun q hq => absurd hq List.not_mem_nil, H1, K1, L1⟩
    · rintro n s ⟨rs, hp', a, rfl, _⟩
      rfl
    · rintro n x s hx ⟨rs, hp', a, rfl, r1, r2, H', K', L'⟩
      rw [List.getElem?_map] at hx
      obtain ⟨z, hz, rfl⟩ := Option.map_eq_some_iff.mp hx
      have hR : (rs.map (·.2)).length < 1000 := by
        have := len_of r1
        rw [List.length_take] at this
        rw [List.length_map]
        have h3 : folk3.length = 3 := rfl
        omega
      obtain ⟨y, hp2, f1, f2, f3, f4, f5⟩ := dr_b2 (e1 := e1) (e2 := e2) (e3 := e3) (e4 := e4) (e6 := e6) (e8 := e8) (e9 := e9) (e11 := e11) (e12 := e12) (e13 := e13) (e14 := e14) (e15 := e15) (e16 := e16) (e17 := e17) (z := z) H' hR hj
      refine ⟨_, _, rfl, f1, rs ++ [(z, y)], hp2, some (.v (.str z)), by rw [List.map_append]; rfl, ?_, ?_, f3, K'.trans f4, by omega⟩
      · rw [List.map_append, r1, tk_next hz]
        rfl
      · intro q hq
        rcases List.mem_append.mp hq with hq | hq
        · exact r2 q hq
        · rw [List.mem_singleton.mp hq]
          exact f2
  rw [List.length_map, List.take_length] at r1
  exact ⟨rs, k.toNat, hp', a, e, r1, r2, H', K', L'⟩
theorem dr_l4 {ps : List (Str × IV)} (H : Hand hp h) (hj : Lot N js) (hp9 : ps.length ≤ 100) (hn : ∀ q ∈ ps, Nmd q) :
    ∃ (rs : List (Str × IV)) (m : Nat) (hp' : List IO) (a b c d : Option RV), c_law_drawn_4 ⟨[some (.v (.ref h)), some (.v (.int 4)), some (.v (.int 1)), e3, e4, some (.l (js.map .int)), e6, some (.l (ps.map (·.2))), some (.l []), e9, e10, e11, e12, e13, e14, e15, e16, none], hp⟩ =
      .ok .nx ⟨[some (.v (.ref h)), some (.v (.int 4)), some (.v (.int 1)), e3, e4, some (.l (js.map .int)), e6, some (.l (ps.map (·.2))), some (.l (rs.map (·.2))), e9, a, b, c, d, e14, e15, e16, none], hp'⟩ ∧ rs.map (·.1) = less4.take (m + 1) ∧ (∀ q ∈ rs, LessonD N (ps.map (·.1)) q) ∧ Hand hp' h ∧ Kp h hp hp' ∧ hp'.length = hp.length := by
  obtain ⟨k, hp1, a1, k1, k2, H1, K1, L1⟩ := s_draw (n := 4 - 1 + 1) H (by decide) (by decide)
  have hc : cutI [.str "art", .str "bio", .str "che", .str "dut"] none (some (1 + k)) = (less4.take (1 + k).toNat).map IV.str := cut_n (zs := less4) (by omega)
  obtain ⟨s', e, rs, hp', a, b, c, d, rfl, r1, r2, H', K', L'⟩ : ∃ s', c_law_drawn_4 ⟨[some (.v (.ref h)), some (.v (.int 4)), some (.v (.int 1)), e3, e4, some (.l (js.map .int)), e6, some (.l (ps.map (·.2))), some (.l []), e9, e10, e11, e12, e13, e14, e15, e16, none], hp⟩ = .ok .nx s' ∧
      ∃ (rs : List (Str × IV)) (hp' : List IO) (a b c d : Option RV), s' = ⟨[some (.v (.ref h)), some (.v (.int 4)), some (.v (.int 1)), e3, e4, some (.l (js.map .int)), e6, some (.l (ps.map (·.2))), some (.l (rs.map (·.2))), e9, a, b, c, d, e14, e15, e16, none], hp'⟩ ∧
        rs.map (·.1) = (less4.take (1 + k).toNat).take ((less4.take (1 + k).toNat).map IV.str).length ∧ (∀ q ∈ rs, LessonD N (ps.map (·.1)) q) ∧ Hand hp' h ∧ Kp h hp hp' ∧ hp'.length = hp.length := by
    refine for_inv (s1 := ⟨[some (.v (.ref h)), some (.v (.int 4)), some (.v (.int 1)), e3, e4, some (.l (js.map .int)), e6, some (.l (ps.map (·.2))), some (.l []), e9, e10, e11, e12, e13, e14, e15, e16, none], hp1⟩) (src := srcOf false (.inr (.l ((less4.take (1 + k).toNat).map IV.str)))) (vs := (less4.take (1 + k).toNat).map IV.str)
      (fun n s' => ∃ (rs : List (Str × IV)) (hp' : List IO) (a b c d : Option RV), s' = ⟨[some (.v (.ref h)), some (.v (.int 4)), some (.v (.int 1)), e3, e4, some (.l (js.map .int)), e6, some (.l (ps.map (·.2))), some (.l (rs.map (·.2))), e9, a, b, c, d, e14, e15, e16, none], hp'⟩ ∧
        rs.map (·.1) = (less4.take (1 + k).toNat).take n ∧ (∀ q ∈ rs, LessonD N (ps.map (·.1)) q) ∧ Hand hp' h ∧ Kp h hp hp' ∧ hp'.length = hp.length) ?_ ?_ ?_ ?_
    · refine its_exl ?_
      clear H H1 K1 L1 k1 k2 hj hn
      walk_at "py"
    · exact ⟨[], hp1, e10, e11, e12, e13, rfl, rfl, fun q hq => absurd hq List.not_mem_nil, H1, K1, L1⟩
    · rintro n s ⟨rs, hp', a, b, c, d, rfl, _⟩
      rfl
    · rintro n x s hx ⟨rs, hp', a, b, c, d, rfl, r1, r2, H', K', L'⟩
      rw [List.getElem?_map] at hx
      obtain ⟨z, hz, rfl⟩ := Option.map_eq_some_iff.mp hx
      have hR : (rs.map (·.2)).length < 1000 := by
        have := len_of r1
        rw [List.length_take] at this
        rw [List.length_map]
        have h3 : less4.length = 4 := rfl
        omega
      obtain ⟨y, hp2, b', c', d', f1, f2, f3, f4, f5⟩ := dr_b4 (e1 := some (.v (.int 4))) (e2 := some (.v (.int 1))) (e3 := e3) (e4 := e4) (e6 := e6) (e9 := e9) (e11 := b) (e12 := c) (e13 := d) (e14 := e14) (e15 := e15) (e16 := e16) (z := z) H' hR hj hp9 hn
      refine ⟨_, _, rfl, f1, rs ++ [(z, y)], hp2, some (.v (.str z)), b', c', d', by rw [List.map_append]; rfl, ?_, ?_, f3, K'.trans f4, by omega⟩
      · rw [List.map_append, r1, tk_next hz]
        rfl
      · intro q hq
        rcases List.mem_append.mp hq with hq | hq
        · exact r2 q hq
        · rw [List.mem_singleton.mp hq]
          exact f2
  rw [List.length_map, List.take_length] at r1
  exact ⟨rs, k.toNat, hp', a, b, c, d, e, by rw [r1, show (1 + k).toNat = k.toNat + 1 by omega], r2, H', K', L'⟩
/-! rules -/
structure RulesOk (zs : List Str) (R : List IV) : Prop where
  ok : ∀ x ∈ R, RuleOk zs x
  df : ∀ (k : Nat) (x : IV), R[k]? = some x → inB (R.take k) x = false
theorem dr_b6 {zs : List Str} (H : Hand hp h) (h2 : 2 ≤ zs.length) (h4 : zs.length ≤ 4) (hz : ∀ z ∈ zs, nmB z = true) (up : Up zs) (O : RulesOk zs R) (hR : R.length < 1000) :
    ∃ (R' : List IV) (hp' : List IO) (a : Option RV), d_law_drawn_6 ⟨[some (.v (.ref h)), e1, e2, e3, e4, some (.l (js.map .int)), e6, e7, e8, some (.l R), e10, e11, e12, e13, some (.l (zs.map .str)), e15, e16, e17], hp⟩ =
      .ok .nx ⟨[some (.v (.ref h)), e1, e2, e3, e4, some (.l (js.map .int)), e6, e7, e8, some (.l R'), e10, e11, e12, e13, some (.l (zs.map .str)), e15, a, e17], hp'⟩ ∧ RulesOk zs R' ∧ R'.length ≤ R.length + 1 ∧ Hand hp' h ∧ Kp h hp hp' ∧ hp'.length = hp.length := by
  obtain ⟨x, hp1, a1, hx, H1, K1, L1⟩ := s_rule H h2 h4 hz up
  have g := fun s => in_gen (neg := true) (s := s) (r := .f R) (.inl rfl) (hx.fld hz) (fun y hy => (O.ok y hy).fld hz)
  have hR' : R.length < 100000 := by omega
  cases q : inB R x with
  | true =>
    rw [q] at g
    refine ⟨R, hp1, some (.v x), ?_, O, by omega, H1, K1, L1⟩
    unfold d_law_drawn_6
    clear H H1 K1 L1 hx O hz up q
    walk_at "py"
  | false =>
    rw [q] at g
    refine ⟨R ++ [x], hp1, some (.v x), ?_, ⟨?_, ?_⟩, by rw [List.length_append]; exact Nat.le_refl _, H1, K1, L1⟩
    · unfold d_law_drawn_6
      clear H H1 K1 L1 hx O hz up q
      walk_at "py"
    · intro y hy
      rcases List.mem_append.mp hy with hy | hy
      · exact O.ok y hy
      · rw [List.mem_singleton.mp hy]
        exact hx
    · intro k y hk
      rcases Nat.lt_or_ge k R.length with hlt | hge
      · rw [List.getElem?_append_left hlt] at hk
        rw [List.take_append_of_le_length (by omega)]
        exact O.df k y hk
      · have hk' : k = R.length := by
          have := (List.getElem?_eq_some_iff.mp hk).1
          rw [List.length_append, List.length_singleton] at this
          omega
        subst hk'
        rw [List.getElem?_concat_length] at hk
        cases hk
        rw [List.take_append_of_le_length (Nat.le_refl _), List.take_length]
        exact q
theorem dr_l6 {zs : List Str} (H : Hand hp h) (h1 : 1 ≤ zs.length) (h4 : zs.length ≤ 4) (hz : ∀ z ∈ zs, nmB z = true) (up : Up zs) :
    ∃ (R : List IV) (hp' : List IO) (a b : Option RV), c_law_drawn_6 ⟨[some (.v (.ref h)), e1, e2, e3, e4, some (.l (js.map .int)), e6, e7, e8, some (.l []), e10, e11, e12, e13, some (.l (zs.map .str)), e15, e16, e17], hp⟩ =
      .ok .nx ⟨[some (.v (.ref h)), e1, e2, e3, e4, some (.l (js.map .int)), e6, e7, e8, some (.l R), e10, e11, e12, e13, some (.l (zs.map .str)), a, b, e17], hp'⟩ ∧ RulesOk zs R ∧ R.length ≤ 3 ∧ Hand hp' h ∧ Kp h hp hp' ∧ hp'.length = hp.length := by
  have O0 : RulesOk zs [] := ⟨fun x hx => absurd hx List.not_mem_nil, fun k x hk => by rw [List.getElem?_nil] at hk; cases hk⟩
  have key : ∀ (n : Nat) (hp1 : List IO), n ≤ 3 → (0 < n → 2 ≤ zs.length) → Hand hp1 h → Kp h hp hp1 → hp1.length = hp.length →
      (mN [(.ex (mIf (mTest (mN [(.ex (mN [(.nm 14)] gLen)), (.ex (mC (.int 1)))] (gI2 fun i j => .bl (decide (j < i))))) (mCall (f_law_any) [(.nm 0), (.ex (mN [(.ex (mC (.int 0))), (.ex (mC (.int 1))), (.ex (mC (.int 2))), (.ex (mC (.int 3)))] gLst))]) (mC (.int 0))))] gRI1) ⟨[some (.v (.ref h)), e1, e2, e3, e4, some (.l (js.map .int)), e6, e7, e8, some (.l []), e10, e11, e12, e13, some (.l (zs.map .str)), e15, e16, e17], hp⟩ = .ok (fun _ => some (rngI 0 n)) ⟨[some (.v (.ref h)), e1, e2, e3, e4, some (.l (js.map .int)), e6, e7, e8, some (.l []), e10, e11, e12, e13, some (.l (zs.map .str)), e15, e16, e17], hp1⟩ →
      ∃ (R : List IV) (hp' : List IO) (a b : Option RV), c_law_drawn_6 ⟨[some (.v (.ref h)), e1, e2, e3, e4, some (.l (js.map .int)), e6, e7, e8, some (.l []), e10, e11, e12, e13, some (.l (zs.map .str)), e15, e16, e17], hp⟩ =
      .ok .nx ⟨[some (.v (.ref h)), e1, e2, e3, e4, some (.l (js.map .int)), e6, e7, e8, some (.l R), e10, e11, e12, e13, some (.l (zs.map .str)), a, b, e17], hp'⟩ ∧ RulesOk zs R ∧ R.length ≤ 3 ∧ Hand hp' h ∧ Kp h hp hp' ∧ hp'.length = hp.length := by
    intro n hp1 hn hn2 H1 K1 L1 hmi
    obtain ⟨s', e, R, hp', a, b, rfl, O, hl, H', K', L'⟩ : ∃ s', c_law_drawn_6 ⟨[some (.v (.ref h)), e1, e2, e3, e4, some (.l (js.map .int)), e6, e7, e8, some (.l []), e10, e11, e12, e13, some (.l (zs.map .str)), e15, e16, e17], hp⟩ = .ok .nx s' ∧
        ∃ (R : List IV) (hp' : List IO) (a b : Option RV), s' = ⟨[some (.v (.ref h)), e1, e2, e3, e4, some (.l (js.map .int)), e6, e7, e8, some (.l R), e10, e11, e12, e13, some (.l (zs.map .str)), a, b, e17], hp'⟩ ∧ RulesOk zs R ∧ R.length ≤ (rngI 0 n).length ∧ Hand hp' h ∧ Kp h hp hp' ∧ hp'.length = hp.length := by
      refine for_inv (s1 := ⟨[some (.v (.ref h)), e1, e2, e3, e4, some (.l (js.map .int)), e6, e7, e8, some (.l []), e10, e11, e12, e13, some (.l (zs.map .str)), e15, e16, e17], hp1⟩) (src := fun _ => some (rngI 0 n)) (vs := rngI 0 n)
        (fun m s' => ∃ (R : List IV) (hp' : List IO) (a b : Option RV), s' = ⟨[some (.v (.ref h)), e1, e2, e3, e4, some (.l (js.map .int)), e6, e7, e8, some (.l R), e10, e11, e12, e13, some (.l (zs.map .str)), a, b, e17], hp'⟩ ∧ RulesOk zs R ∧ R.length ≤ m ∧ Hand hp' h ∧ Kp h hp hp' ∧ hp'.length = hp.length) hmi ⟨[], hp1, e15, e16, rfl, O0, Nat.zero_le _, H1, K1, L1⟩ (fun _ _ _ => rfl) ?_
      rintro m x s hx ⟨R, hp', a, b, rfl, O, hl, H', K', L'⟩
      obtain ⟨hm, rfl⟩ := rng_get hx
      obtain ⟨R', hp2, a', f1, f2, f3, f4, f5, f6⟩ := dr_b6 (js := js) (e1 := e1) (e2 := e2) (e3 := e3) (e4 := e4) (e6 := e6) (e7 := e7) (e8 := e8) (e10 := e10) (e11 := e11) (e12 := e12) (e13 := e13) (e15 := some (.v (.int (0 + (m : Nat))))) (e16 := b) (e17 := e17) H' (hn2 (by omega)) h4 hz up O (by omega)
      exact ⟨_, _, rfl, f1, R', hp2, _, a', rfl, f2, by omega, f4, K'.trans f5, by omega⟩
    refine ⟨R, hp', a, b, e, O, ?_, H', K', L'⟩
    unfold rngI at hl
    rw [List.length_map, List.length_range] at hl
    omega
  have r1 := @ev_RI1
  by_cases hb : (1 : Int) < (zs.length : Int)
  · obtain ⟨x, hp1, a1, hx, H1, K1, L1⟩ := s_any (vs := [.int 0, .int 1, .int 2, .int 3]) (r := .l [.int 0, .int 1, .int 2, .int 3]) H (.inl rfl) (by exact Nat.zero_lt_succ _) (Nat.le_of_ble_eq_true rfl)
    obtain ⟨j, rfl, j1, j2⟩ : ∃ j : Int, x = .int j ∧ 0 ≤ j ∧ j ≤ 3 := by
      simp only [List.mem_cons, List.not_mem_nil, or_false] at hx
      rcases hx with rfl | rfl | rfl | rfl <;> exact ⟨_, rfl, by decide, by decide⟩
    have j3 : -1000000 ≤ j := by omega
    have j4 : j ≤ 1000000 := by omega
    refine key j.toNat hp1 (by omega) (fun _ => by omega) H1 K1 L1 ?_
    clear key H H1 K1 L1 hx hz up O0 h1 h4 j1 j2
    walk_at "py"
  · have j3 : (-1000000 : Int) ≤ 0 := by decide
    have j4 : (0 : Int) ≤ 1000000 := by decide
    refine key 0 hp (by omega) (fun h => by omega) H Kp.refl rfl ?_
    clear key H hz up O0 h1 h4
    walk_at "py"
    rfl
end

end Py

set_option Elab.async false
set_option linter.all false
set_option maxRecDepth 100000
set_option maxHeartbeats 4000000
namespace Py
open PySem PySem.Spec PyProof.Rows L2
local macro_rules | `(tactic| walk_at "py") => `(tactic| simp only [ev_C, ev_tr, ev_Nx, ev_Rd, kRd1, ev_N, kN1, kN2, kG1, ev_L0, ev_L1, kL1a, kL1b, kL2a, kL2b, ev_nm, kNm1, ev_ex, kX1, kX2, kX3, ev_T, kT1, kT2, ev_B, kB1a, ev_And, ev_Or, ev_Not, kNot1, ev_If, ev_IfS, kIf1, kIf2, kIf3, ev_Seq, kSeq1, kSeq2, kSeq3, ev_Drop, kDrop1, kDrop2, ev_Set, kSet1, kSet2, ev_Ret, kRet1, kRet2, kRet3, ev_Par, ev_pL0, ev_pL1, kPut1, ev_put1, ev_put2, ev_Asg, kAsg1, kAs2a, ev_Box, kBox1, kBox2, ev_Call, ev_gCall, kCall1, kCall2, ev_Make, ev_gMake, kMk1, ev_Raise, ev_rdL0, ev_rdL1, kC1, ev_rdl, ev_rdr, ev_rdS, kR1, kR2, kR3, kR4, ev_sq1, ev_sq2, ev_sq3, ev_sq4, ev_I2, ev_I1, ev_Abs, ev_Int, ev_At, kAt1, kV1, ev_Len1, ev_Len2, ev_Len3, ev_Tuple, kTu1, ev_List, kLi1, ev_bx0, ev_bx1, ev_bx2, kB1b, ev_bv1, ev_Tup, ev_Lst, kTup_0, kLst_0, kTup_1, kLst_1, kTup_2, kLst_2, kTup_3, kLst_3, kTup_4, kLst_4, kTup_5, kLst_5, kTup_6, kLst_6, kTup_7, kLst_7, kApp1, kAp2a, ev_IsN, ev_IsT, ev_IsT2, kIs1, kIs2a, ev_ty1, ev_ty2, ev_ty3, ev_ty4, ev_ty5, ev_ty7, ev_ty8, ev_SlH, ev_SlL, fSl1, fSl2, fSl3, fSl4, ev_sN, atI_0, atI_1, atI_2, atI_3, atI_4, atI_5, kFor1, kFor2, fin1, fin2, fin3, fin4, ev_Ch, kCh1a, kCh2a, kCh3a, kCh4a, kCh5a, ev_I2c, ev_sq5, ev_ty6, ev_LenS, ev_Len4, ev_CatT, ev_CatL, kTup1, kLst1, kAp3a, ev_App, kAp0a, beq_self_eq_true, isL1, kSq1, kTy1, kTy2, kLe1, ev_Fl, kFl1, kFl2a, ev_SI, kSI1, kSI2a, ev_SF, kSF1, kSF2a, List.length_map, ev_All, List.getElem?_cons_zero, List.getElem?_cons_succ, List.set_cons_zero, List.set_cons_succ, Bool.not_true, Bool.not_false, isa, decide_true, decide_false, Bool.false_eq_true, if_true, if_false, setT, setNs, Option.map_some, isNon, Bool.or_true, Bool.or_false, Bool.true_or, Bool.false_or, ite_true, ite_false, ev_Lk, kLk2, *])
/-! Q11: law_drawn. -/
structure PlanOk (x : IV) (d p : Int) (rs ps ls : List (Str × IV)) (R : List IV) : Prop where
  e : x = .tup [.int d, .int p, .tup (rs.map (·.2)), .tup (ps.map (·.2)), .tup (ls.map (·.2)), .tup R]
  d1 : 1 ≤ d
  d2 : d ≤ 2
  p1 : 2 ≤ p
  p2 : p ≤ 4
  rn : ∃ m : Nat, rs.map (·.1) = rows3.take m
  rd : ∀ q ∈ rs, RoomD (d * p) q
  pn : ∃ m : Nat, ps.map (·.1) = folk3.take m
  pd : ∀ q ∈ ps, PersonD (d * p) q
  ln : ∃ m : Nat, ls.map (·.1) = less4.take (m + 1)
  ld : ∀ q ∈ ls, LessonD (d * p) (ps.map (·.1)) q
  ru : RulesOk (ls.map (·.1)) R
  rl : R.length ≤ 3
theorem nm_rows : ∀ z ∈ rows3, nmB z = true := by decide +kernel
theorem nm_folk : ∀ z ∈ folk3, nmB z = true := by decide +kernel
theorem nm_less : ∀ z ∈ less4, nmB z = true := by decide +kernel
theorem up_rows : Up rows3 := by decide +kernel
theorem up_folk : Up folk3 := by decide +kernel
theorem up_less : Up less4 := by decide +kernel
theorem dp_b {d p : Int} (h1 : 1 ≤ d) (h2 : d ≤ 2) (h3 : 2 ≤ p) (h4 : p ≤ 4) : 2 ≤ d * p ∧ d * p ≤ 8 := by
  rcases (by omega : d = 1 ∨ d = 2) with rfl | rfl <;> omega
theorem nm_of {rs : List (Str × IV)} {zs : List Str} {m : Nat} (h : rs.map (·.1) = zs.take m) (n : ∀ z ∈ zs, nmB z = true) : ∀ q ∈ rs, nmB q.1 = true := fun q hq => n _ (List.mem_of_mem_take (i := m) (h ▸ List.mem_map_of_mem (f := (·.1)) hq))
section
variable {hp hp' hp1 hp2 : List IO} {h : Nat}
theorem s_drawn (H : Hand hp h) : ∃ (x : IV) (d p : Int) (rs ps ls : List (Str × IV)) (R : List IV) (hp' : List IO), f_law_drawn [.v (.ref h), .v (.int 4), .v (.int 1)] hp = .ok (.v x) hp' ∧ PlanOk x d p rs ps ls R ∧ Hand hp' h ∧ Kp h hp hp' ∧ hp'.length = hp.length := by
  obtain ⟨k1, hp1, a1, b1, b2, H1, K1, L1⟩ := s_draw (n := 2) H (by decide) (by decide)
  obtain ⟨k2, hp2, a2, b3, b4, H2, K2, L2⟩ := s_draw (n := 3) H1 (by decide) (by decide)
  have hdp := dp_b (d := 1 + k1) (p := 2 + k2) (by omega) (by omega) (by omega) (by omega)
  have cm : cMul (1 + k1) (2 + k2) = true := cM_r (by
    simp only [Bool.and_eq_true, decide_eq_true_eq]
    omega)
  have hjs : Lot ((1 + k1) * (2 + k2)) ((List.range ((1 + k1) * (2 + k2)).toNat).map fun i : Nat => (i : Int)) := by
    refine ⟨fun i hi => ?_, ?_, ?_⟩
    · obtain ⟨j, hj, rfl⟩ := List.mem_map.mp hi
      have := List.mem_range.mp hj
      omega
    · rw [List.pairwise_map]
      exact List.pairwise_lt_range.imp fun h => by omega
    · rw [List.length_map, List.length_range]
      omega
  have rg : ∀ s : S, gRng1 [.v (.int ((1 + k1) * (2 + k2)))] s = .ok (.l (((List.range ((1 + k1) * (2 + k2)).toNat).map fun i : Nat => (i : Int)).map .int)) s := fun s => by
    rw [List.map_map]
    unfold gRng1
    simp only [decide_eq_true (show (0 : Int) ≤ (1 + k1) * (2 + k2) by omega), decide_eq_true (show (1 + k1) * (2 + k2) ≤ 100000 by omega), Bool.and_self]
    rfl
  generalize ((List.range ((1 + k1) * (2 + k2)).toNat).map fun i : Nat => (i : Int)) = js at hjs rg
  obtain ⟨rs, m1, hp3, x10, x11, x12, f1, r1, r2, H3, K3, L3⟩ := dr_l1 (e1 := some (.v (.int 4))) (e2 := some (.v (.int 1))) (e3 := some (.v (.int (1 + k1)))) (e4 := some (.v (.int (2 + k2)))) (e7 := some (.l [])) (e8 := some (.l [])) (e9 := some (.l [])) (e10 := none) (e11 := none) (e12 := none) (e13 := none) (e14 := none) (e15 := none) (e16 := none) (e17 := none) H2 hjs
  obtain ⟨ps, m2, hp4, y10, f2, p1, p2, H4, K4, L4⟩ := dr_l2 (e1 := some (.v (.int 4))) (e2 := some (.v (.int 1))) (e3 := some (.v (.int (1 + k1)))) (e4 := some (.v (.int (2 + k2)))) (e6 := some (.l (rs.map (·.2)))) (e8 := some (.l [])) (e9 := some (.l [])) (e10 := x10) (e11 := x11) (e12 := x12) (e13 := none) (e14 := none) (e15 := none) (e16 := none) (e17 := none) H3 hjs
  have np : ∀ q ∈ ps, Nmd q := fun q hq => ⟨nm_of p1 nm_folk q hq, by
    obtain ⟨ab, m, e, _⟩ := p2 q hq
    exact ⟨_, e⟩⟩
  have lp : ps.length ≤ 3 := len_of p1
  obtain ⟨ls, m3, hp5, z10, z11, z12, z13, f3, l1, l2, H5, K5, L5⟩ := dr_l4 (e3 := some (.v (.int (1 + k1)))) (e4 := some (.v (.int (2 + k2)))) (e6 := some (.l (rs.map (·.2)))) (e9 := some (.l [])) (e10 := y10) (e11 := x11) (e12 := x12) (e13 := none) (e14 := none) (e15 := none) (e16 := none) H4 hjs (by omega) np
  have nl : ∀ q ∈ ls, Nmd q := fun q hq => ⟨nm_of l1 nm_less q hq, by
    obtain ⟨a, b, c, d, e, h, _⟩ := l2 q hq
    exact ⟨_, h⟩⟩
  have ll : ls.length ≤ 4 := len_of l1
  have ll0 : 1 ≤ ls.length := by
    have := congrArg List.length l1
    rw [List.length_map, List.length_take] at this
    have h4 : less4.length = 4 := rfl
    omega
  have f4 : c_law_drawn_5 ⟨[some (.v (.ref h)), some (.v (.int 4)), some (.v (.int 1)), some (.v (.int (1 + k1))), some (.v (.int (2 + k2))), some (.l (js.map .int)), some (.l (rs.map (·.2))), some (.l (ps.map (·.2))), some (.l (ls.map (·.2))), some (.l []), z10, z11, z12, z13, none, none, none, none], hp5⟩ =
      .ok (.l ((ls.map (·.1)).map .str)) ⟨[some (.v (.ref h)), some (.v (.int 4)), some (.v (.int 1)), some (.v (.int (1 + k1))), some (.v (.int (2 + k2))), some (.l (js.map .int)), some (.l (rs.map (·.2))), some (.l (ps.map (·.2))), some (.l (ls.map (·.2))), some (.l []), z10, z11, z12, z13, none, none, none, none], hp5⟩ := by
    rw [List.map_map]
    refine lc_map (src := srcOf false (.inl 8)) (fun q : Str × IV => q.2) (IV.str ∘ fun q : Str × IV => q.1) ls ?_ ?_ ?_ (by omega) (fun q hq => ⟨⟨[some (.v (.ref h)), some (.v (.int 4)), some (.v (.int 1)), some (.v (.int (1 + k1))), some (.v (.int (2 + k2))), some (.l (js.map .int)), some (.l (rs.map (·.2))), some (.l (ps.map (·.2))), some (.l (ls.map (·.2))), some (.l []), z10, z11, z12, z13, none, none, none, some (.v q.2)], hp5⟩, ?_, ?_, ?_⟩)
    · rfl
    · rfl
    · rfl
    · rfl
    · rfl
    · obtain ⟨_, us, hu⟩ := nl q hq
      rw [hu]
      clear H H1 H2 H3 H4 H5 K1 K2 K3 K4 K5 nl np hu f1 f2 f3 r2 p2 l2 hjs rg
      walk_at "py"
      rfl
  obtain ⟨R, hp6, a15, a16, f5, O, hR, H6, K6, L6⟩ := dr_l6 (js := js) (zs := ls.map (·.1)) (e1 := some (.v (.int 4))) (e2 := some (.v (.int 1))) (e3 := some (.v (.int (1 + k1)))) (e4 := some (.v (.int (2 + k2)))) (e6 := some (.l (rs.map (·.2)))) (e7 := some (.l (ps.map (·.2)))) (e8 := some (.l (ls.map (·.2)))) (e10 := z10) (e11 := z11) (e12 := z12) (e13 := z13) (e15 := none) (e16 := none) (e17 := none) H5 (by rw [List.length_map]; exact ll0) (by rw [List.length_map]; exact ll) (by
      intro z hz
      obtain ⟨q, hq, rfl⟩ := List.mem_map.mp hz
      exact (nl q hq).1) (by rw [l1]; exact up_less.sublist (List.take_sublist ..))
  refine ⟨_, 1 + k1, 2 + k2, rs, ps, ls, R, hp6, ?_, ⟨rfl, by omega, by omega, by omega, by omega, ⟨m1, r1⟩, r2, ⟨m2, p1⟩, p2, ⟨m3, l1⟩, l2, O, hR⟩, H6, ((((K1.trans K2).trans K3).trans K4).trans K5).trans K6, by omega⟩
  rw [v_law_drawn, u_law_drawn]
  clear H H1 H2 H3 H4 H5 H6 K1 K2 K3 K4 K5 K6 L1 L2 L3 L4 L5 L6 nl np r2 p2 l2 hjs O hR ll ll0 lp l1 p1 r1 hdp b1 b2 b3 b4
  walk_at "py"
end

end Py

set_option Elab.async false
set_option linter.all false
set_option maxRecDepth 100000
set_option maxHeartbeats 4000000
namespace Py
open PySem PySem.Spec PyProof.Rows L2
local macro_rules | `(tactic| walk_at "py") => `(tactic| simp only [ev_C, ev_tr, ev_Nx, ev_Rd, kRd1, ev_N, kN1, kN2, kG1, ev_L0, ev_L1, kL1a, kL1b, kL2a, kL2b, ev_nm, kNm1, ev_ex, kX1, kX2, kX3, ev_T, kT1, kT2, ev_B, kB1a, ev_And, ev_Or, ev_Not, kNot1, ev_If, ev_IfS, kIf1, kIf2, kIf3, ev_Seq, kSeq1, kSeq2, kSeq3, ev_Drop, kDrop1, kDrop2, ev_Set, kSet1, kSet2, ev_Ret, kRet1, kRet2, kRet3, ev_Par, ev_pL0, ev_pL1, kPut1, ev_put1, ev_put2, ev_Asg, kAsg1, kAs2a, ev_Box, kBox1, kBox2, ev_Call, ev_gCall, kCall1, kCall2, ev_Make, ev_gMake, kMk1, ev_Raise, ev_rdL0, ev_rdL1, kC1, ev_rdl, ev_rdr, ev_rdS, kR1, kR2, kR3, kR4, ev_sq1, ev_sq2, ev_sq3, ev_sq4, ev_I2, ev_I1, ev_Abs, ev_Int, ev_At, kAt1, kV1, ev_Len1, ev_Len2, ev_Len3, ev_Tuple, kTu1, ev_List, kLi1, ev_bx0, ev_bx1, ev_bx2, kB1b, ev_bv1, ev_Tup, ev_Lst, kTup_0, kLst_0, kTup_1, kLst_1, kTup_2, kLst_2, kTup_3, kLst_3, kTup_4, kLst_4, kTup_5, kLst_5, kTup_6, kLst_6, kTup_7, kLst_7, kApp1, kAp2a, ev_IsN, ev_IsT, ev_IsT2, kIs1, kIs2a, ev_ty1, ev_ty2, ev_ty3, ev_ty4, ev_ty5, ev_ty7, ev_ty8, ev_SlH, ev_SlL, fSl1, fSl2, fSl3, fSl4, ev_sN, atI_0, atI_1, atI_2, atI_3, atI_4, atI_5, kFor1, kFor2, fin1, fin2, fin3, fin4, ev_Ch, kCh1a, kCh2a, kCh3a, kCh4a, kCh5a, ev_I2c, ev_sq5, ev_ty6, ev_LenS, ev_Len4, ev_CatT, ev_CatL, kTup1, kLst1, kAp3a, ev_App, kAp0a, beq_self_eq_true, isL1, kSq1, kTy1, kTy2, kLe1, ev_Fl, kFl1, kFl2a, ev_SI, kSI1, kSI2a, ev_SF, kSF1, kSF2a, List.length_map, ev_All, List.getElem?_cons_zero, List.getElem?_cons_succ, List.set_cons_zero, List.set_cons_succ, Bool.not_true, Bool.not_false, isa, decide_true, decide_false, Bool.false_eq_true, if_true, if_false, setT, setNs, Option.map_some, isNon, Bool.or_true, Bool.or_false, Bool.true_or, Bool.false_or, ite_true, ite_false, ev_Lk, kLk2, *])
/-! Q12: fields; slots; what stands behind; rooms, persons, lessons, weeks made. -/
def ixOf (f : Str) : List Str → Option Nat
  | [] => none
  | k :: ks => if f = k then some 0 else (ixOf f ks).map (· + 1)
theorem lk_ix : ∀ {fs : List (Str × IV)} {ks : List Str} {f : Str} {i : Nat} {x : IV}, fs.map (·.1) = ks → (ixOf f ks = some i) → (fs.map (·.2))[i]? = some x → List.lookup f fs = some x
  | [], _, _, _, _, rfl, h, _ => nomatch h
  | (k, v) :: fs, _, f, i, x, rfl, h, g => by
    rw [List.map_cons, ixOf] at h
    rw [List.lookup]
    by_cases q : f = k
    · rw [if_pos q] at h
      cases h
      subst q
      rw [beq_self_eq_true]
      exact g
    · rw [if_neg q] at h
      rw [beq_eq_false_iff_ne.mpr q]
      obtain ⟨j, hj, rfl⟩ := Option.map_eq_some_iff.mp h
      exact lk_ix (fs := fs) rfl hj (by simpa using g)
theorem lk_none : ∀ {fs : List (Str × IV)} {ks : List Str} {f : Str}, fs.map (·.1) = ks → ixOf f ks = none → List.lookup f fs = none
  | [], _, _, rfl, _ => rfl
  | (k, v) :: fs, _, f, rfl, h => by
    rw [List.map_cons, ixOf] at h
    rw [List.lookup]
    by_cases q : f = k
    · rw [if_pos q] at h
      cases h
    · rw [if_neg q] at h
      rw [beq_eq_false_iff_ne.mpr q]
      exact lk_none (fs := fs) rfl (Option.map_eq_none_iff.mp h)
theorem putI_new : ∀ {fs : List (Str × IV)} {ks : List Str} {f : Str} {v : IV}, fs.map (·.1) = ks → ixOf f ks = none → putI f v fs = fs ++ [(f, v)]
  | [], _, _, _, rfl, _ => rfl
  | (k, u) :: fs, _, f, v, rfl, h => by
    rw [List.map_cons, ixOf] at h
    rw [putI]
    by_cases q : f = k
    · rw [if_pos q] at h
      cases h
    · rw [if_neg q] at h
      rw [if_neg (Ne.symm q), putI_new (fs := fs) rfl (Option.map_eq_none_iff.mp h)]
      rfl
def kIsO (sub : List (Str × Bool)) (s : S) : Option (Sum Ty0 Str) → Rs RV
  | some (.inl _) => .ok (.v (.bl false)) s
  | some (.inr c) => (match sub.lookup c with
    | some b => .ok (.v (.bl b)) s
    | none => .bad)
  | none => .bad
theorem ev_IsO {sub : List (Str × Bool)} {r : RV} {s : S} : gIsO sub [r] s = kIsO sub s (tyV0 s r) := by
  show (match tyV0 s r with | some (.inl _) => (Rs.ok (RV.v (.bl false)) s : Rs RV) | some (.inr c) => (match sub.lookup c with | some b => .ok (.v (.bl b)) s | none => .bad) | none => .bad) = _
  rcases tyV0 s r with _ | _ | _ <;> rfl
def kNX : Fo → Fo
  | .exn _ _ _ => .bad
  | o => o
theorem ev_noX {f : Fn} {rs : List RV} {hp : List IO} : noX f rs hp = kNX (f rs hp) := by
  unfold noX kNX
  cases f rs hp <;> rfl
theorem kNX1 {r : RV} {hp : List IO} : kNX (.ok r hp) = .ok r hp := rfl
def kMe (p : Pn) (f : Fn) : Rs (List Pn) → Rs RV
  | .ok ps s2 => kG (gCall (noX f)) s2 (rdL s2.env (p :: ps))
  | .exn c fs s => .exn c fs s
  | .bad => .bad
theorem kMe1 {p : Pn} {f : Fn} {ps : List Pn} {s : S} : kMe p f (.ok ps s) = kG (gCall (noX f)) s (rdL s.env (p :: ps)) := rfl
def kMt (p : Pn) (f : Fn) (os : List Opd) (s : S) : Bool → Rs RV
  | true => kMe p f (runL os s)
  | false => .bad
theorem kMt1 {p : Pn} {f : Fn} {os : List Opd} {s : S} : kMt p f os s true = kMe p f (runL os s) := rfl
def kMo (c m : Str) (f : Fn) (os : List Opd) : Rs Pn → Rs RV
  | .ok p s1 => kMt p f os s1 (isIns c m s1 (rd s1.env p))
  | .exn c fs s => .exn c fs s
  | .bad => .bad
theorem kMo1 {c m : Str} {p : Pn} {f : Fn} {os : List Opd} {s : S} : kMo c m f os (.ok p s) = kMt p f os s (isIns c m s (rd s.env p)) := rfl
theorem ev_Meth {c m : Str} {f : Fn} {o : Opd} {os : List Opd} {s : S} : mMeth c m f o os s = kMo c m f os (o.run s) := by
  unfold mMeth kMo
  cases o.run s with
  | exn c fs s => rfl
  | bad => rfl
  | ok p s1 =>
    show (match isIns c m s1 (rd s1.env p) with | true => _ | false => _) = kMt p f os s1 (isIns c m s1 (rd s1.env p))
    cases isIns c m s1 (rd s1.env p) with
    | false => rfl
    | true =>
      show (runL os s1).bind _ = kMe p f (runL os s1)
      cases runL os s1 with
      | exn c fs s => rfl
      | bad => rfl
      | ok ps s2 =>
        show (match rdL s2.env (p :: ps) with | some rs => gCall (noX f) rs s2 | none => .bad) = kG (gCall (noX f)) s2 (rdL s2.env (p :: ps))
        cases rdL s2.env (p :: ps) <;> rfl
def kII (c m : Str) : Option IO → Bool
  | some (.ins d fs) => decide (d = c) && (fs.lookup m).isNone
  | _ => false
theorem ev_isIns {c m : Str} {n : Nat} {s : S} : isIns c m s (some (.v (.ref n))) = kII c m s.hp[n]? := by
  show (match s.hp[n]? with | some (.ins d fs) => decide (d = c) && (fs.lookup m).isNone | _ => false) = _
  unfold kII
  cases s.hp[n]? with
  | none => rfl
  | some o =>
    cases o with
    | ins c fs => rfl
    | lst _ => rfl
    | dct _ => rfl
theorem kII1 {c m : Str} {fs : List (Str × IV)} : kII c m (some (.ins c fs)) = (List.lookup m fs).isNone := by
  show (decide (c = c) && (List.lookup m fs).isNone) = _
  rw [decide_eq_true rfl, Bool.true_and]
theorem pi_Week_0 {v : IV} : putI ("days" : Str) v ([] : List (Str × IV)) = [(("days" : Str), v)] := putI_new (f := ("days" : Str)) (ks := ([] : List Str)) rfl (by decide +kernel)
theorem pi_Week_1 {x0 v : IV} : putI ("periods" : Str) v ([(("days" : Str), x0)] : List (Str × IV)) = [(("days" : Str), x0), (("periods" : Str), v)] := putI_new (f := ("periods" : Str)) (ks := ([("days" : Str)] : List Str)) rfl (by decide +kernel)
theorem pi_Room_0 {v : IV} : putI ("name" : Str) v ([] : List (Str × IV)) = [(("name" : Str), v)] := putI_new (f := ("name" : Str)) (ks := ([] : List Str)) rfl (by decide +kernel)
theorem pi_Room_1 {x0 v : IV} : putI ("seats" : Str) v ([(("name" : Str), x0)] : List (Str × IV)) = [(("name" : Str), x0), (("seats" : Str), v)] := putI_new (f := ("seats" : Str)) (ks := ([("name" : Str)] : List Str)) rfl (by decide +kernel)
theorem pi_Room_2 {x0 x1 v : IV} : putI ("kinds" : Str) v ([(("name" : Str), x0), (("seats" : Str), x1)] : List (Str × IV)) = [(("name" : Str), x0), (("seats" : Str), x1), (("kinds" : Str), v)] := putI_new (f := ("kinds" : Str)) (ks := ([("name" : Str), ("seats" : Str)] : List Str)) rfl (by decide +kernel)
theorem pi_Room_3 {x0 x1 x2 v : IV} : putI ("closed" : Str) v ([(("name" : Str), x0), (("seats" : Str), x1), (("kinds" : Str), x2)] : List (Str × IV)) = [(("name" : Str), x0), (("seats" : Str), x1), (("kinds" : Str), x2), (("closed" : Str), v)] := putI_new (f := ("closed" : Str)) (ks := ([("name" : Str), ("seats" : Str), ("kinds" : Str)] : List Str)) rfl (by decide +kernel)
theorem pi_Person_1 {x0 v : IV} : putI ("absent" : Str) v ([(("name" : Str), x0)] : List (Str × IV)) = [(("name" : Str), x0), (("absent" : Str), v)] := putI_new (f := ("absent" : Str)) (ks := ([("name" : Str)] : List Str)) rfl (by decide +kernel)
theorem pi_Person_2 {x0 x1 v : IV} : putI ("most" : Str) v ([(("name" : Str), x0), (("absent" : Str), x1)] : List (Str × IV)) = [(("name" : Str), x0), (("absent" : Str), x1), (("most" : Str), v)] := putI_new (f := ("most" : Str)) (ks := ([("name" : Str), ("absent" : Str)] : List Str)) rfl (by decide +kernel)
theorem pi_Lesson_1 {x0 v : IV} : putI ("length" : Str) v ([(("name" : Str), x0)] : List (Str × IV)) = [(("name" : Str), x0), (("length" : Str), v)] := putI_new (f := ("length" : Str)) (ks := ([("name" : Str)] : List Str)) rfl (by decide +kernel)
theorem pi_Lesson_2 {x0 x1 v : IV} : putI ("people" : Str) v ([(("name" : Str), x0), (("length" : Str), x1)] : List (Str × IV)) = [(("name" : Str), x0), (("length" : Str), x1), (("people" : Str), v)] := putI_new (f := ("people" : Str)) (ks := ([("name" : Str), ("length" : Str)] : List Str)) rfl (by decide +kernel)
theorem pi_Lesson_3 {x0 x1 x2 v : IV} : putI ("seats" : Str) v ([(("name" : Str), x0), (("length" : Str), x1), (("people" : Str), x2)] : List (Str × IV)) = [(("name" : Str), x0), (("length" : Str), x1), (("people" : Str), x2), (("seats" : Str), v)] := putI_new (f := ("seats" : Str)) (ks := ([("name" : Str), ("length" : Str), ("people" : Str)] : List Str)) rfl (by decide +kernel)
theorem pi_Lesson_4 {x0 x1 x2 x3 v : IV} : putI ("kinds" : Str) v ([(("name" : Str), x0), (("length" : Str), x1), (("people" : Str), x2), (("seats" : Str), x3)] : List (Str × IV)) = [(("name" : Str), x0), (("length" : Str), x1), (("people" : Str), x2), (("seats" : Str), x3), (("kinds" : Str), v)] := putI_new (f := ("kinds" : Str)) (ks := ([("name" : Str), ("length" : Str), ("people" : Str), ("seats" : Str)] : List Str)) rfl (by decide +kernel)
theorem pi_Lesson_5 {x0 x1 x2 x3 x4 v : IV} : putI ("starts" : Str) v ([(("name" : Str), x0), (("length" : Str), x1), (("people" : Str), x2), (("seats" : Str), x3), (("kinds" : Str), x4)] : List (Str × IV)) = [(("name" : Str), x0), (("length" : Str), x1), (("people" : Str), x2), (("seats" : Str), x3), (("kinds" : Str), x4), (("starts" : Str), v)] := putI_new (f := ("starts" : Str)) (ks := ([("name" : Str), ("length" : Str), ("people" : Str), ("seats" : Str), ("kinds" : Str)] : List Str)) rfl (by decide +kernel)
theorem pi_Book_0 {v : IV} : putI ("week" : Str) v ([] : List (Str × IV)) = [(("week" : Str), v)] := putI_new (f := ("week" : Str)) (ks := ([] : List Str)) rfl (by decide +kernel)
theorem pi_Book_1 {x0 v : IV} : putI ("rooms" : Str) v ([(("week" : Str), x0)] : List (Str × IV)) = [(("week" : Str), x0), (("rooms" : Str), v)] := putI_new (f := ("rooms" : Str)) (ks := ([("week" : Str)] : List Str)) rfl (by decide +kernel)
theorem pi_Book_2 {x0 x1 v : IV} : putI ("people" : Str) v ([(("week" : Str), x0), (("rooms" : Str), x1)] : List (Str × IV)) = [(("week" : Str), x0), (("rooms" : Str), x1), (("people" : Str), v)] := putI_new (f := ("people" : Str)) (ks := ([("week" : Str), ("rooms" : Str)] : List Str)) rfl (by decide +kernel)
theorem pi_Book_3 {x0 x1 x2 v : IV} : putI ("room_named" : Str) v ([(("week" : Str), x0), (("rooms" : Str), x1), (("people" : Str), x2)] : List (Str × IV)) = [(("week" : Str), x0), (("rooms" : Str), x1), (("people" : Str), x2), (("room_named" : Str), v)] := putI_new (f := ("room_named" : Str)) (ks := ([("week" : Str), ("rooms" : Str), ("people" : Str)] : List Str)) rfl (by decide +kernel)
theorem pi_Book_4 {x0 x1 x2 x3 v : IV} : putI ("person_named" : Str) v ([(("week" : Str), x0), (("rooms" : Str), x1), (("people" : Str), x2), (("room_named" : Str), x3)] : List (Str × IV)) = [(("week" : Str), x0), (("rooms" : Str), x1), (("people" : Str), x2), (("room_named" : Str), x3), (("person_named" : Str), v)] := putI_new (f := ("person_named" : Str)) (ks := ([("week" : Str), ("rooms" : Str), ("people" : Str), ("room_named" : Str)] : List Str)) rfl (by decide +kernel)
theorem pi_Book_5 {x0 x1 x2 x3 x4 v : IV} : putI ("lessons" : Str) v ([(("week" : Str), x0), (("rooms" : Str), x1), (("people" : Str), x2), (("room_named" : Str), x3), (("person_named" : Str), x4)] : List (Str × IV)) = [(("week" : Str), x0), (("rooms" : Str), x1), (("people" : Str), x2), (("room_named" : Str), x3), (("person_named" : Str), x4), (("lessons" : Str), v)] := putI_new (f := ("lessons" : Str)) (ks := ([("week" : Str), ("rooms" : Str), ("people" : Str), ("room_named" : Str), ("person_named" : Str)] : List Str)) rfl (by decide +kernel)
theorem pi_Book_6 {x0 x1 x2 x3 x4 x5 v : IV} : putI ("lesson_named" : Str) v ([(("week" : Str), x0), (("rooms" : Str), x1), (("people" : Str), x2), (("room_named" : Str), x3), (("person_named" : Str), x4), (("lessons" : Str), x5)] : List (Str × IV)) = [(("week" : Str), x0), (("rooms" : Str), x1), (("people" : Str), x2), (("room_named" : Str), x3), (("person_named" : Str), x4), (("lessons" : Str), x5), (("lesson_named" : Str), v)] := putI_new (f := ("lesson_named" : Str)) (ks := ([("week" : Str), ("rooms" : Str), ("people" : Str), ("room_named" : Str), ("person_named" : Str), ("lessons" : Str)] : List Str)) rfl (by decide +kernel)
theorem pi_Book_7 {x0 x1 x2 x3 x4 x5 x6 v : IV} : putI ("rules" : Str) v ([(("week" : Str), x0), (("rooms" : Str), x1), (("people" : Str), x2), (("room_named" : Str), x3), (("person_named" : Str), x4), (("lessons" : Str), x5), (("lesson_named" : Str), x6)] : List (Str × IV)) = [(("week" : Str), x0), (("rooms" : Str), x1), (("people" : Str), x2), (("room_named" : Str), x3), (("person_named" : Str), x4), (("lessons" : Str), x5), (("lesson_named" : Str), x6), (("rules" : Str), v)] := putI_new (f := ("rules" : Str)) (ks := ([("week" : Str), ("rooms" : Str), ("people" : Str), ("room_named" : Str), ("person_named" : Str), ("lessons" : Str), ("lesson_named" : Str)] : List Str)) rfl (by decide +kernel)
theorem lk_Week_days {x0 x1 : IV} : List.lookup ("days" : Str) [(("days" : Str), x0), (("periods" : Str), x1)] = some x0 := lk_ix (f := ("days" : Str)) (ks := ([("days" : Str), ("periods" : Str)] : List Str)) rfl (i := 0) (by decide +kernel) rfl
theorem lk_Week_periods {x0 x1 : IV} : List.lookup ("periods" : Str) [(("days" : Str), x0), (("periods" : Str), x1)] = some x1 := lk_ix (f := ("periods" : Str)) (ks := ([("days" : Str), ("periods" : Str)] : List Str)) rfl (i := 1) (by decide +kernel) rfl
theorem lk_Room_closed {x0 x1 x2 x3 : IV} : List.lookup ("closed" : Str) [(("name" : Str), x0), (("seats" : Str), x1), (("kinds" : Str), x2), (("closed" : Str), x3)] = some x3 := lk_ix (f := ("closed" : Str)) (ks := ([("name" : Str), ("seats" : Str), ("kinds" : Str), ("closed" : Str)] : List Str)) rfl (i := 3) (by decide +kernel) rfl
theorem lk_Room_name {x0 x1 x2 x3 : IV} : List.lookup ("name" : Str) [(("name" : Str), x0), (("seats" : Str), x1), (("kinds" : Str), x2), (("closed" : Str), x3)] = some x0 := lk_ix (f := ("name" : Str)) (ks := ([("name" : Str), ("seats" : Str), ("kinds" : Str), ("closed" : Str)] : List Str)) rfl (i := 0) (by decide +kernel) rfl
theorem lk_Person_absent {x0 x1 x2 : IV} : List.lookup ("absent" : Str) [(("name" : Str), x0), (("absent" : Str), x1), (("most" : Str), x2)] = some x1 := lk_ix (f := ("absent" : Str)) (ks := ([("name" : Str), ("absent" : Str), ("most" : Str)] : List Str)) rfl (i := 1) (by decide +kernel) rfl
theorem lk_Person_name {x0 x1 x2 : IV} : List.lookup ("name" : Str) [(("name" : Str), x0), (("absent" : Str), x1), (("most" : Str), x2)] = some x0 := lk_ix (f := ("name" : Str)) (ks := ([("name" : Str), ("absent" : Str), ("most" : Str)] : List Str)) rfl (i := 0) (by decide +kernel) rfl
theorem lk_Lesson_starts {x0 x1 x2 x3 x4 x5 : IV} : List.lookup ("starts" : Str) [(("name" : Str), x0), (("length" : Str), x1), (("people" : Str), x2), (("seats" : Str), x3), (("kinds" : Str), x4), (("starts" : Str), x5)] = some x5 := lk_ix (f := ("starts" : Str)) (ks := ([("name" : Str), ("length" : Str), ("people" : Str), ("seats" : Str), ("kinds" : Str), ("starts" : Str)] : List Str)) rfl (i := 5) (by decide +kernel) rfl
theorem lk_Lesson_people {x0 x1 x2 x3 x4 x5 : IV} : List.lookup ("people" : Str) [(("name" : Str), x0), (("length" : Str), x1), (("people" : Str), x2), (("seats" : Str), x3), (("kinds" : Str), x4), (("starts" : Str), x5)] = some x2 := lk_ix (f := ("people" : Str)) (ks := ([("name" : Str), ("length" : Str), ("people" : Str), ("seats" : Str), ("kinds" : Str), ("starts" : Str)] : List Str)) rfl (i := 2) (by decide +kernel) rfl
theorem lk_Lesson_name {x0 x1 x2 x3 x4 x5 : IV} : List.lookup ("name" : Str) [(("name" : Str), x0), (("length" : Str), x1), (("people" : Str), x2), (("seats" : Str), x3), (("kinds" : Str), x4), (("starts" : Str), x5)] = some x0 := lk_ix (f := ("name" : Str)) (ks := ([("name" : Str), ("length" : Str), ("people" : Str), ("seats" : Str), ("kinds" : Str), ("starts" : Str)] : List Str)) rfl (i := 0) (by decide +kernel) rfl
theorem lk_Book_week {x0 x1 x2 x3 x4 : IV} : List.lookup ("week" : Str) [(("week" : Str), x0), (("rooms" : Str), x1), (("people" : Str), x2), (("room_named" : Str), x3), (("person_named" : Str), x4)] = some x0 := lk_ix (f := ("week" : Str)) (ks := ([("week" : Str), ("rooms" : Str), ("people" : Str), ("room_named" : Str), ("person_named" : Str)] : List Str)) rfl (i := 0) (by decide +kernel) rfl
theorem lk_Book_person_named {x0 x1 x2 x3 x4 : IV} : List.lookup ("person_named" : Str) [(("week" : Str), x0), (("rooms" : Str), x1), (("people" : Str), x2), (("room_named" : Str), x3), (("person_named" : Str), x4)] = some x4 := lk_ix (f := ("person_named" : Str)) (ks := ([("week" : Str), ("rooms" : Str), ("people" : Str), ("room_named" : Str), ("person_named" : Str)] : List Str)) rfl (i := 4) (by decide +kernel) rfl
theorem lk_Book_lesson_named {x0 x1 x2 x3 x4 x5 x6 : IV} : List.lookup ("lesson_named" : Str) [(("week" : Str), x0), (("rooms" : Str), x1), (("people" : Str), x2), (("room_named" : Str), x3), (("person_named" : Str), x4), (("lessons" : Str), x5), (("lesson_named" : Str), x6)] = some x6 := lk_ix (f := ("lesson_named" : Str)) (ks := ([("week" : Str), ("rooms" : Str), ("people" : Str), ("room_named" : Str), ("person_named" : Str), ("lessons" : Str), ("lesson_named" : Str)] : List Str)) rfl (i := 6) (by decide +kernel) rfl
theorem lk_Book_lessons {x0 x1 x2 x3 x4 x5 x6 x7 : IV} : List.lookup ("lessons" : Str) [(("week" : Str), x0), (("rooms" : Str), x1), (("people" : Str), x2), (("room_named" : Str), x3), (("person_named" : Str), x4), (("lessons" : Str), x5), (("lesson_named" : Str), x6), (("rules" : Str), x7)] = some x5 := lk_ix (f := ("lessons" : Str)) (ks := ([("week" : Str), ("rooms" : Str), ("people" : Str), ("room_named" : Str), ("person_named" : Str), ("lessons" : Str), ("lesson_named" : Str), ("rules" : Str)] : List Str)) rfl (i := 5) (by decide +kernel) rfl
theorem ln_Week_has {x0 x1 : IV} : List.lookup ("has" : Str) [(("days" : Str), x0), (("periods" : Str), x1)] = none := lk_none (f := ("has" : Str)) (ks := ([("days" : Str), ("periods" : Str)] : List Str)) rfl (by decide +kernel)
theorem ln_Book_put_lessons {x0 x1 x2 x3 x4 : IV} : List.lookup ("put_lessons" : Str) [(("week" : Str), x0), (("rooms" : Str), x1), (("people" : Str), x2), (("room_named" : Str), x3), (("person_named" : Str), x4)] = none := lk_none (f := ("put_lessons" : Str)) (ks := ([("week" : Str), ("rooms" : Str), ("people" : Str), ("room_named" : Str), ("person_named" : Str)] : List Str)) rfl (by decide +kernel)
theorem ln_Book_put_rules {x0 x1 x2 x3 x4 x5 x6 : IV} : List.lookup ("put_rules" : Str) [(("week" : Str), x0), (("rooms" : Str), x1), (("people" : Str), x2), (("room_named" : Str), x3), (("person_named" : Str), x4), (("lessons" : Str), x5), (("lesson_named" : Str), x6)] = none := lk_none (f := ("put_rules" : Str)) (ks := ([("week" : Str), ("rooms" : Str), ("people" : Str), ("room_named" : Str), ("person_named" : Str), ("lessons" : Str), ("lesson_named" : Str)] : List Str)) rfl (by decide +kernel)
theorem dl_0 : decide (([] : List (Str × IV)).length < 1000) = true := rfl
theorem dl_1 {y0 : Str × IV} : decide (([y0] : List (Str × IV)).length < 1000) = true := rfl
theorem dl_2 {y0 y1 : Str × IV} : decide (([y0, y1] : List (Str × IV)).length < 1000) = true := rfl
theorem dl_3 {y0 y1 y2 : Str × IV} : decide (([y0, y1, y2] : List (Str × IV)).length < 1000) = true := rfl
theorem dl_4 {y0 y1 y2 y3 : Str × IV} : decide (([y0, y1, y2, y3] : List (Str × IV)).length < 1000) = true := rfl
theorem dl_5 {y0 y1 y2 y3 y4 : Str × IV} : decide (([y0, y1, y2, y3, y4] : List (Str × IV)).length < 1000) = true := rfl
theorem dl_6 {y0 y1 y2 y3 y4 y5 : Str × IV} : decide (([y0, y1, y2, y3, y4, y5] : List (Str × IV)).length < 1000) = true := rfl
theorem dl_7 {y0 y1 y2 y3 y4 y5 y6 : Str × IV} : decide (([y0, y1, y2, y3, y4, y5, y6] : List (Str × IV)).length < 1000) = true := rfl
theorem dm_0 : decide (("Week" : Str) ∈ ([("Week" : Str)] : List Str)) = true := by decide +kernel
theorem dm_1 : decide (("Room" : Str) ∈ ([("Room" : Str), ("Person" : Str), ("Lesson" : Str)] : List Str)) = true := by decide +kernel
theorem dm_2 : decide (("Person" : Str) ∈ ([("Room" : Str), ("Person" : Str), ("Lesson" : Str)] : List Str)) = true := by decide +kernel
theorem dm_3 : decide (("Lesson" : Str) ∈ ([("Room" : Str), ("Person" : Str), ("Lesson" : Str)] : List Str)) = true := by decide +kernel
theorem dm_4 : decide (("Room" : Str) ∈ ([("Room" : Str), ("Lesson" : Str)] : List Str)) = true := by decide +kernel
theorem dm_5 : decide (("Lesson" : Str) ∈ ([("Room" : Str), ("Lesson" : Str)] : List Str)) = true := by decide +kernel
theorem dm_6 : decide (("Room" : Str) ∈ ([("Room" : Str)] : List Str)) = true := by decide +kernel
theorem dm_7 : decide (("Person" : Str) ∈ ([("Person" : Str)] : List Str)) = true := by decide +kernel
theorem dm_8 : decide (("Lesson" : Str) ∈ ([("Lesson" : Str)] : List Str)) = true := by decide +kernel
theorem dm_9 : decide (("Lesson" : Str) ∈ ([("Lesson" : Str), ("Book" : Str)] : List Str)) = true := by decide +kernel
theorem dm_10 : decide (("Book" : Str) ∈ ([("Lesson" : Str), ("Book" : Str)] : List Str)) = true := by decide +kernel
theorem dm_11 : decide (("Book" : Str) ∈ ([("Book" : Str)] : List Str)) = true := by decide +kernel
theorem kio_Week {s : S} : kIsO [(("Week" : Str), true)] s (some (.inr ("Week" : Str))) = .ok (.v (.bl true)) s := by
  have : List.lookup ("Week" : Str) [(("Week" : Str), true)] = some true := by decide +kernel
  simp only [kIsO, this]
theorem kio_Room {s : S} : kIsO [(("Room" : Str), true)] s (some (.inr ("Room" : Str))) = .ok (.v (.bl true)) s := by
  have : List.lookup ("Room" : Str) [(("Room" : Str), true)] = some true := by decide +kernel
  simp only [kIsO, this]
theorem kio_Person {s : S} : kIsO [(("Person" : Str), true)] s (some (.inr ("Person" : Str))) = .ok (.v (.bl true)) s := by
  have : List.lookup ("Person" : Str) [(("Person" : Str), true)] = some true := by decide +kernel
  simp only [kIsO, this]
theorem kio_Lesson {s : S} : kIsO [(("Lesson" : Str), true)] s (some (.inr ("Lesson" : Str))) = .ok (.v (.bl true)) s := by
  have : List.lookup ("Lesson" : Str) [(("Lesson" : Str), true)] = some true := by decide +kernel
  simp only [kIsO, this]
local macro_rules | `(tactic| walk_at "py") => `(tactic| simp only [ev_C, ev_tr, ev_Nx, ev_Rd, kRd1, ev_N, kN1, kN2, kG1, ev_L0, ev_L1, kL1a, kL1b, kL2a, kL2b, ev_nm, kNm1, ev_ex, kX1, kX2, kX3, ev_T, kT1, kT2, ev_B, kB1a, ev_And, ev_Or, ev_Not, kNot1, ev_If, ev_IfS, kIf1, kIf2, kIf3, ev_Seq, kSeq1, kSeq2, kSeq3, ev_Drop, kDrop1, kDrop2, ev_Set, kSet1, kSet2, ev_Ret, kRet1, kRet2, kRet3, ev_Par, ev_pL0, ev_pL1, kPut1, ev_put1, ev_put2, ev_Asg, kAsg1, kAs2a, ev_Box, kBox1, kBox2, ev_Call, ev_gCall, kCall1, kCall2, ev_Make, ev_gMake, kMk1, ev_Raise, ev_rdL0, ev_rdL1, kC1, ev_rdl, ev_rdr, ev_rdS, kR1, kR2, kR3, kR4, ev_sq1, ev_sq2, ev_sq3, ev_sq4, ev_I2, ev_I1, ev_Abs, ev_Int, ev_At, kAt1, kV1, ev_Len1, ev_Len2, ev_Len3, ev_Tuple, kTu1, ev_List, kLi1, ev_bx0, ev_bx1, ev_bx2, kB1b, ev_bv1, ev_Tup, ev_Lst, kTup_0, kLst_0, kTup_1, kLst_1, kTup_2, kLst_2, kTup_3, kLst_3, kTup_4, kLst_4, kTup_5, kLst_5, kTup_6, kLst_6, kTup_7, kLst_7, kApp1, kAp2a, ev_IsN, ev_IsT, ev_IsT2, kIs1, kIs2a, ev_ty1, ev_ty2, ev_ty3, ev_ty4, ev_ty5, ev_ty7, ev_ty8, ev_SlH, ev_SlL, fSl1, fSl2, fSl3, fSl4, ev_sN, atI_0, atI_1, atI_2, atI_3, atI_4, atI_5, kFor1, kFor2, fin1, fin2, fin3, fin4, ev_Ch, kCh1a, kCh2a, kCh3a, kCh4a, kCh5a, ev_I2c, ev_sq5, ev_ty6, ev_LenS, ev_Len4, ev_CatT, ev_CatL, kTup1, kLst1, kAp3a, ev_App, kAp0a, beq_self_eq_true, isL1, kSq1, kTy1, kTy2, kLe1, ev_Fl, kFl1, kFl2a, ev_SI, kSI1, kSI2a, ev_SF, kSF1, kSF2a, List.length_map, ev_All, List.getElem?_cons_zero, List.getElem?_cons_succ, List.set_cons_zero, List.set_cons_succ, Bool.not_true, Bool.not_false, isa, decide_true, decide_false, Bool.false_eq_true, if_true, if_false, setT, setNs, Option.map_some, isNon, Bool.or_true, Bool.or_false, Bool.true_or, Bool.false_or, ite_true, ite_false, ev_Lk, kLk2, ev_IsO, ev_noX, kNX1, kMe1, kMt1, kMo1, ev_Meth, ev_isIns, kII1, Option.isNone_none, Bool.and_self, pi_Week_0, pi_Week_1, pi_Room_0, pi_Room_1, pi_Room_2, pi_Room_3, pi_Person_1, pi_Person_2, pi_Lesson_1, pi_Lesson_2, pi_Lesson_3, pi_Lesson_4, pi_Lesson_5, pi_Book_0, pi_Book_1, pi_Book_2, pi_Book_3, pi_Book_4, pi_Book_5, pi_Book_6, pi_Book_7, lk_Week_days, lk_Week_periods, lk_Room_closed, lk_Room_name, lk_Person_absent, lk_Person_name, lk_Lesson_starts, lk_Lesson_people, lk_Lesson_name, lk_Book_week, lk_Book_person_named, lk_Book_lesson_named, lk_Book_lessons, ln_Week_has, ln_Book_put_lessons, ln_Book_put_rules, dl_0, dl_1, dl_2, dl_3, dl_4, dl_5, dl_6, dl_7, dm_0, dm_1, dm_2, dm_3, dm_4, dm_5, dm_6, dm_7, dm_8, dm_9, dm_10, dm_11, kio_Week, kio_Room, kio_Person, kio_Lesson, *])
section
variable {hp hp' hp1 hp2 : List IO} {n w : Nat} {d p : Int} {l : List (Nat × Str)}
theorem set_cc {a b : IO} : ∀ {hp : List IO}, (hp ++ [a]).set hp.length b = hp ++ [b]
  | [] => rfl
  | x :: hp => by
    rw [List.cons_append, List.length_cons, List.set_cons_succ, set_cc]
    rfl
abbrev wkO (d p : Int) : IO := .ins "Week" [("days", .int d), ("periods", .int p)]
theorem s_Week (d1 : 1 ≤ d) (d2 : d ≤ 7) (p1 : 1 ≤ p) (p2 : p ≤ 12) : f_Week_init [.v (.ref hp.length), .v (.int d), .v (.int p)] (hp ++ [.ins "Week" []]) = .ok (.v .non) (hp ++ [wkO d p]) := by
  have g := @get_cc
  have t := @set_cc
  have b1 := s_btw (hp := hp ++ [.ins "Week" []]) d1 d2
  have b2 := s_btw (hp := hp ++ [.ins "Week" []]) p1 p2
  rw [v_Week_init, u_Week_init]
  clear d1 d2 p1 p2
  walk_at "py"
theorem s_has {i : Int} (hw : hp[w]? = some (wkO d p)) (h1 : 0 ≤ i) (h2 : i < d * p) (cm : cMul d p = true) : f_Week_has [.v (.ref w), .v (.int i)] hp = .ok (.v (.bl true)) hp := by
  rw [v_Week_has, u_Week_has]
  walk_at "py"
theorem s_slots {is : List Int} (hw : hp[w]? = some (wkO d p)) (cm : cMul d p = true) (L : Lot (d * p) is) : f_is_slots [.v (.ref w), .v (.tup (is.map .int))] hp = .ok (.v (.bl true)) hp := by
  have e1 := s_numbers (hp := hp) (is := is) (by have := L.2.2; omega) (fun i hi => (L.1 i hi).1) L.2.1
  have e2 : c_is_slots_1 ⟨[some (.v (.ref w)), some (.v (.tup (is.map .int))), none], hp⟩ = .ok (.l (is.map fun _ => .bl true)) ⟨[some (.v (.ref w)), some (.v (.tup (is.map .int))), none], hp⟩ := by
    refine lc_map (v0 := .int) (g := fun _ => .bl true) is rfl rfl rfl (by have := L.2.2; omega) (fun i hi => ⟨⟨[some (.v (.ref w)), some (.v (.tup (is.map .int))), some (.v (.int i))], hp⟩, rfl, rfl, ?_⟩)
    have e := s_has hw (L.1 i hi).1 (L.1 i hi).2 cm
    clear L cm e1
    walk_at "py"
  have t := @all_tt
  rw [v_is_slots, u_is_slots]
  clear L cm hw
  walk_at "py"
/-- objects of a class with their names -/
def Objs (hp : List IO) (C : Str) (l : List (Nat × Str)) : Prop := ∀ q ∈ l, ∃ fs, hp[q.1]? = some (.ins C fs) ∧ List.lookup ("name" : Str) fs = some (.str q.2)
theorem s_behind {C : Str} {k : Nat} (o : Objs hp C l) (hC : decide (C ∈ (["Room", "Person", "Lesson"] : List Str)) = true) (up : Up (l.map (·.2))) (hk : k < l.length) :
    f_is_behind [.v (.tup (l.map fun q => .ref q.1)), .v (.int (k : Nat))] hp = .ok (.v (.bl true)) hp := by
  have q1 := fun s => eq_ii (s := s) (neg := false) (i := (k : Nat)) (j := 0)
  rw [v_is_behind, u_is_behind]
  cases k with
  | zero =>
    have q2 : (((0 : Nat) : Int) == 0) = true := rfl
    clear o up
    walk_at "py"
  | succ k =>
    have q2 : (((k + 1 : Nat) : Int) == 0) = false := by
      rw [beq_eq_false_iff_ne]
      omega
    have x1 : l[k]? = some l[k] := List.getElem?_eq_getElem (by omega)
    have x2 : l[k + 1]? = some l[k + 1] := List.getElem?_eq_getElem (by omega)
    have u : ltS l[k].2 l[k + 1].2 = true := by
      have := List.pairwise_iff_getElem.mp up k (k + 1) (by rw [List.length_map]; omega) (by rw [List.length_map]; omega) (by omega)
      rwa [List.getElem_map, List.getElem_map] at this
    obtain ⟨f1, g1, g2⟩ := o _ (List.mem_of_getElem? x1)
    obtain ⟨f2, g3, g4⟩ := o _ (List.mem_of_getElem? x2)
    have a1 : atI (l.map fun q => IV.ref q.1) (((k + 1 : Nat) : Int) - 1) = some (.ref l[k].1) := by
      rw [show (((k + 1 : Nat) : Int) - 1) = (k : Int) by omega]
      exact atI_nat (by rw [List.getElem?_map, x1]; rfl)
    have a2 : atI (l.map fun q => IV.ref q.1) ((k + 1 : Nat) : Int) = some (.ref l[k + 1].1) := atI_nat (by rw [List.getElem?_map, x2]; rfl)
    have lt := @gLt_s
    generalize l[k] = qa at *
    generalize l[k + 1] = qb at *
    clear o up hk x1 x2
    walk_at "py"
/-! made -/
theorem up_one {ks : List Str} (h : KsOk ks) : Up ks := by
  match ks, h with
  | [], _ => exact List.Pairwise.nil
  | [z], _ => exact List.pairwise_singleton ..
  | _ :: _ :: _, h => exact absurd h.1 (by simp)
theorem s_Room {z : Str} {i : Int} {ks : List Str} {cl : List Int} {N : Int} (hz : nmB z = true) (i1 : 0 ≤ i) (i2 : i ≤ 999) (hk : KsOk ks) (L : Lot N cl) :
    f_Room_init [.v (.ref hp.length), .v (.str z), .v (.int i), .v (.tup (ks.map .str)), .v (.tup (cl.map .int))] (hp ++ [.ins "Room" []]) = .ok (.v .non) (hp ++ [.ins "Room" [("name", .str z), ("seats", .int i), ("kinds", .tup (ks.map .str)), ("closed", .tup (cl.map .int))]]) := by
  have g := @get_cc
  have t := @set_cc
  have b1 := s_name (hp := hp ++ [.ins "Room" []]) hz
  have b2 := s_btw (hp := hp ++ [.ins "Room" []]) i1 i2
  have b3 := s_names (hp := hp ++ [.ins "Room" []]) (m := 6) (zs := ks) (by have := hk.1; omega) (by have := hk.1; omega) hk.2 (up_one hk)
  have b4 := s_numbers (hp := hp ++ [.ins "Room" []]) (is := cl) (by have := L.2.2; omega) (fun i hi => (L.1 i hi).1) L.2.1
  rw [v_Room_init, u_Room_init]
  clear hz i1 i2 hk L
  walk_at "py"
theorem s_Person {z : Str} {i : Int} {ab : List Int} {N : Int} (hz : nmB z = true) (i1 : 0 ≤ i) (i2 : i ≤ 12) (L : Lot N ab) :
    f_Person_init [.v (.ref hp.length), .v (.str z), .v (.tup (ab.map .int)), .v (.int i)] (hp ++ [.ins "Person" []]) = .ok (.v .non) (hp ++ [.ins "Person" [("name", .str z), ("absent", .tup (ab.map .int)), ("most", .int i)]]) := by
  have g := @get_cc
  have t := @set_cc
  have b1 := s_name (hp := hp ++ [.ins "Person" []]) hz
  have b2 := s_btw (hp := hp ++ [.ins "Person" []]) i1 i2
  have b4 := s_numbers (hp := hp ++ [.ins "Person" []]) (is := ab) (by have := L.2.2; omega) (fun i hi => (L.1 i hi).1) L.2.1
  rw [v_Person_init, u_Person_init]
  clear hz i1 i2 L
  walk_at "py"
theorem s_Lesson {z : Str} {len i : Int} {folk ks : List Str} {st : List Int} {N : Int} (hz : nmB z = true) (n1 : 1 ≤ len) (n2 : len ≤ 4) (i1 : 0 ≤ i) (i2 : i ≤ 999) (hk : KsOk ks) (L : Lot N st)
    (f1 : folk.length ≤ 8) (f2 : ∀ z ∈ folk, nmB z = true) (f3 : Up folk) :
    f_Lesson_init [.v (.ref hp.length), .v (.str z), .v (.int len), .v (.tup (folk.map .str)), .v (.int i), .v (.tup (ks.map .str)), .v (.tup (st.map .int))] (hp ++ [.ins "Lesson" []]) = .ok (.v .non) (hp ++ [.ins "Lesson" [("name", .str z), ("length", .int len), ("people", .tup (folk.map .str)), ("seats", .int i), ("kinds", .tup (ks.map .str)), ("starts", .tup (st.map .int))]]) := by
  have g := @get_cc
  have t := @set_cc
  have b1 := s_name (hp := hp ++ [.ins "Lesson" []]) hz
  have b0 := s_btw (hp := hp ++ [.ins "Lesson" []]) n1 n2
  have b2 := s_btw (hp := hp ++ [.ins "Lesson" []]) i1 i2
  have b3 := s_names (hp := hp ++ [.ins "Lesson" []]) (m := 6) (zs := ks) (by have := hk.1; omega) (by have := hk.1; omega) hk.2 (up_one hk)
  have b5 := s_names (hp := hp ++ [.ins "Lesson" []]) (m := 8) (zs := folk) (by omega) (by omega) f2 f3
  have b4 := s_numbers (hp := hp ++ [.ins "Lesson" []]) (is := st) (by have := L.2.2; omega) (fun i hi => (L.1 i hi).1) L.2.1
  rw [v_Lesson_init, u_Lesson_init]
  clear hz i1 i2 hk L n1 n2 f1 f2 f3
  walk_at "py"
/-! rules judged -/
theorem p5_n : ∀ w ∈ pairs5, (w == "most") = false ∧ (w == "gap") = false ∧ (pairs5.any fun z => z == w) = true := by decide +kernel
theorem s_is_rule {zs : List Str} {x : IV} (hz : ∀ z ∈ zs, nmB z = true) (R : RuleOk zs x) : f_is_rule [.v x] hp = .ok (.v (.bl true)) hp := by
  have ok : ∀ z ∈ zs, PyData.strOk z = true := fun z h => (nm_len (hz z h)).2.2.2
  have ii := @eq_ii
  have lt := @gLt_i
  cases R with
  | @pair w a b hw ha hb ne =>
    have q1 := fun s => eq_ss (s := s) (neg := false) (ok_p5 w hw) oks_most
    have q2 := fun s => eq_ss (s := s) (neg := false) (ok_p5 w hw) oks_gap
    have q3 := fun s => eq_ss (s := s) (neg := false) (ok a ha) (ok b hb)
    have q4 : (a == b) = false := beq_eq_false_iff_ne.mpr ne
    have q5 : ∀ s : S, gIn false [.v (.str w), .v (.tup [.str "apart", .str "same", .str "ahead", .str "together", .str "next"])] s = .ok (.v (.bl true)) s := fun s => by
      have := in_strs (neg := false) (s := s) (ok_p5 w hw) (zs := pairs5) ok_p5
      rw [(p5_n w hw).2.2] at this
      exact this
    have q6 := (p5_n w hw).1
    have q7 := (p5_n w hw).2.1
    have b1 := s_name (hp := hp) (hz a ha)
    have b2 := s_name (hp := hp) (hz b hb)
    have n1 : ∀ x y z : IV, decide ((([x, y, z].length : Nat) : Int) < 3) = false := fun _ _ _ => rfl
    have n2 : ∀ x y z : IV, ((([x, y, z].length : Nat) : Int) == 3) = true := fun _ _ _ => rfl
    rw [v_is_rule, u_is_rule]
    clear ok hz hw ha hb ne
    walk_at "py"
  | @gap a b g ha hb ne g1 g2 =>
    have q1 := fun s => eq_ss (s := s) (neg := false) oks_gap oks_most
    have q2 := fun s => eq_ss (s := s) (neg := false) oks_gap oks_gap
    have q3 := fun s => eq_ss (s := s) (neg := false) (ok a ha) (ok b hb)
    have q4 : (a == b) = false := beq_eq_false_iff_ne.mpr ne
    have q6 := ne_gm
    have b1 := s_name (hp := hp) (hz a ha)
    have b2 := s_name (hp := hp) (hz b hb)
    have b3 := s_btw (hp := hp) g1 g2
    have n1 : ∀ x y z u : IV, decide ((([x, y, z, u].length : Nat) : Int) < 3) = false := fun _ _ _ _ => rfl
    have n2 : ∀ x y z u : IV, ((([x, y, z, u].length : Nat) : Int) == 4) = true := fun _ _ _ _ => rfl
    rw [v_is_rule, u_is_rule]
    clear ok hz ha hb ne g1 g2
    walk_at "py"
  | @most lot m up hs l2 l3 g1 g2 =>
    have q1 := fun s => eq_ss (s := s) (neg := false) oks_most oks_most
    have b1 := s_names (hp := hp) (m := 12) (zs := lot) (by omega) (by omega) (fun z h => hz z (hs z h)) up
    have b3 := s_btw (hp := hp) g1 g2
    have n1 : ∀ x y z : IV, decide ((([x, y, z].length : Nat) : Int) < 3) = false := fun _ _ _ => rfl
    have n2 : ∀ x y z : IV, ((([x, y, z].length : Nat) : Int) == 3) = true := fun _ _ _ => rfl
    have n3 : (1 : Int) < (lot.length : Int) := by omega
    rw [v_is_rule, u_is_rule]
    clear ok hz hs up l2 l3 g1 g2
    walk_at "py"
theorem s_names_of {zs : List Str} {x : IV} (R : RuleOk zs x) : ∃ ns : List Str, f_names_of [.v x] hp = .ok (.v (.tup (ns.map .str))) hp ∧ (∀ z ∈ ns, z ∈ zs) ∧ ns.length ≤ 3 := by
  cases R with
  | @pair w a b hw ha hb ne =>
    have q1 := fun s => eq_ss (s := s) (neg := false) (ok_p5 w hw) oks_most
    have q6 := (p5_n w hw).1
    have sl : mSlB (.nm 0) (.ex (mC (.int 1))) (.ex (mC (.int 3))) ⟨[some (.v (.tup [.str w, .str a, .str b]))], hp⟩ = .ok (.v (.tup [.str a, .str b])) ⟨[some (.v (.tup [.str w, .str a, .str b]))], hp⟩ := rfl
    refine ⟨[a, b], ?_, ?_, Nat.le_of_ble_eq_true rfl⟩
    · rw [v_names_of, u_names_of]
      clear hw ha hb ne
      walk_at "py"
      rfl
    · intro z hz
      simp only [List.mem_cons, List.not_mem_nil, or_false] at hz
      rcases hz with rfl | rfl
      · exact ha
      · exact hb
  | @gap a b g ha hb ne g1 g2 =>
    have q1 := fun s => eq_ss (s := s) (neg := false) oks_gap oks_most
    have q6 := ne_gm
    have sl : mSlB (.nm 0) (.ex (mC (.int 1))) (.ex (mC (.int 3))) ⟨[some (.v (.tup [.str "gap", .str a, .str b, .int g]))], hp⟩ = .ok (.v (.tup [.str a, .str b])) ⟨[some (.v (.tup [.str "gap", .str a, .str b, .int g]))], hp⟩ := rfl
    refine ⟨[a, b], ?_, ?_, Nat.le_of_ble_eq_true rfl⟩
    · rw [v_names_of, u_names_of]
      clear ha hb ne g1 g2
      walk_at "py"
      rfl
    · intro z hz
      simp only [List.mem_cons, List.not_mem_nil, or_false] at hz
      rcases hz with rfl | rfl
      · exact ha
      · exact hb
  | @most lot m up hs l2 l3 g1 g2 =>
    have q1 := fun s => eq_ss (s := s) (neg := false) oks_most oks_most
    refine ⟨lot, ?_, hs, l3⟩
    rw [v_names_of, u_names_of]
    clear hs up l2 l3 g1 g2
    walk_at "py"
end

end Py

set_option Elab.async false
set_option linter.all false
set_option maxRecDepth 100000
set_option maxHeartbeats 4000000
namespace Py
open PySem PySem.Spec PyProof.Rows L2
local macro_rules | `(tactic| walk_at "py") => `(tactic| simp only [ev_C, ev_tr, ev_Nx, ev_Rd, kRd1, ev_N, kN1, kN2, kG1, ev_L0, ev_L1, kL1a, kL1b, kL2a, kL2b, ev_nm, kNm1, ev_ex, kX1, kX2, kX3, ev_T, kT1, kT2, ev_B, kB1a, ev_And, ev_Or, ev_Not, kNot1, ev_If, ev_IfS, kIf1, kIf2, kIf3, ev_Seq, kSeq1, kSeq2, kSeq3, ev_Drop, kDrop1, kDrop2, ev_Set, kSet1, kSet2, ev_Ret, kRet1, kRet2, kRet3, ev_Par, ev_pL0, ev_pL1, kPut1, ev_put1, ev_put2, ev_Asg, kAsg1, kAs2a, ev_Box, kBox1, kBox2, ev_Call, ev_gCall, kCall1, kCall2, ev_Make, ev_gMake, kMk1, ev_Raise, ev_rdL0, ev_rdL1, kC1, ev_rdl, ev_rdr, ev_rdS, kR1, kR2, kR3, kR4, ev_sq1, ev_sq2, ev_sq3, ev_sq4, ev_I2, ev_I1, ev_Abs, ev_Int, ev_At, kAt1, kV1, ev_Len1, ev_Len2, ev_Len3, ev_Tuple, kTu1, ev_List, kLi1, ev_bx0, ev_bx1, ev_bx2, kB1b, ev_bv1, ev_Tup, ev_Lst, kTup_0, kLst_0, kTup_1, kLst_1, kTup_2, kLst_2, kTup_3, kLst_3, kTup_4, kLst_4, kTup_5, kLst_5, kTup_6, kLst_6, kTup_7, kLst_7, kApp1, kAp2a, ev_IsN, ev_IsT, ev_IsT2, kIs1, kIs2a, ev_ty1, ev_ty2, ev_ty3, ev_ty4, ev_ty5, ev_ty7, ev_ty8, ev_SlH, ev_SlL, fSl1, fSl2, fSl3, fSl4, ev_sN, atI_0, atI_1, atI_2, atI_3, atI_4, atI_5, kFor1, kFor2, fin1, fin2, fin3, fin4, ev_Ch, kCh1a, kCh2a, kCh3a, kCh4a, kCh5a, ev_I2c, ev_sq5, ev_ty6, ev_LenS, ev_Len4, ev_CatT, ev_CatL, kTup1, kLst1, kAp3a, ev_App, kAp0a, beq_self_eq_true, isL1, kSq1, kTy1, kTy2, kLe1, ev_Fl, kFl1, kFl2a, ev_SI, kSI1, kSI2a, ev_SF, kSF1, kSF2a, List.length_map, ev_All, List.getElem?_cons_zero, List.getElem?_cons_succ, List.set_cons_zero, List.set_cons_succ, Bool.not_true, Bool.not_false, isa, decide_true, decide_false, Bool.false_eq_true, if_true, if_false, setT, setNs, Option.map_some, isNon, Bool.or_true, Bool.or_false, Bool.true_or, Bool.false_or, ite_true, ite_false, ev_Lk, kLk2, ev_IsO, ev_noX, kNX1, kMe1, kMt1, kMo1, ev_Meth, ev_isIns, kII1, Option.isNone_none, Bool.and_self, pi_Week_0, pi_Week_1, pi_Room_0, pi_Room_1, pi_Room_2, pi_Room_3, pi_Person_1, pi_Person_2, pi_Lesson_1, pi_Lesson_2, pi_Lesson_3, pi_Lesson_4, pi_Lesson_5, pi_Book_0, pi_Book_1, pi_Book_2, pi_Book_3, pi_Book_4, pi_Book_5, pi_Book_6, pi_Book_7, lk_Week_days, lk_Week_periods, lk_Room_closed, lk_Room_name, lk_Person_absent, lk_Person_name, lk_Lesson_starts, lk_Lesson_people, lk_Lesson_name, lk_Book_week, lk_Book_person_named, lk_Book_lesson_named, lk_Book_lessons, ln_Week_has, ln_Book_put_lessons, ln_Book_put_rules, dl_0, dl_1, dl_2, dl_3, dl_4, dl_5, dl_6, dl_7, dm_0, dm_1, dm_2, dm_3, dm_4, dm_5, dm_6, dm_7, dm_8, dm_9, dm_10, dm_11, kio_Week, kio_Room, kio_Person, kio_Lesson, *])
/-! Q13: a book made. -/
theorem ev_Fg {own : List Nat} {m : M RV} {s : S} : mFg own m s = m (clrS own s) := rfl
theorem ev_cl {own : List Nat} {env : List (Option RV)} {hp : List IO} : clrS own ⟨env, hp⟩ = ⟨clr own env, hp⟩ := rfl
theorem ev_cl1 {i : Nat} {e : List (Option RV)} : clr [i] e = e.set i none := rfl
local macro_rules | `(tactic| walk_at "py") => `(tactic| simp only [ev_C, ev_tr, ev_Nx, ev_Rd, kRd1, ev_N, kN1, kN2, kG1, ev_L0, ev_L1, kL1a, kL1b, kL2a, kL2b, ev_nm, kNm1, ev_ex, kX1, kX2, kX3, ev_T, kT1, kT2, ev_B, kB1a, ev_And, ev_Or, ev_Not, kNot1, ev_If, ev_IfS, kIf1, kIf2, kIf3, ev_Seq, kSeq1, kSeq2, kSeq3, ev_Drop, kDrop1, kDrop2, ev_Set, kSet1, kSet2, ev_Ret, kRet1, kRet2, kRet3, ev_Par, ev_pL0, ev_pL1, kPut1, ev_put1, ev_put2, ev_Asg, kAsg1, kAs2a, ev_Box, kBox1, kBox2, ev_Call, ev_gCall, kCall1, kCall2, ev_Make, ev_gMake, kMk1, ev_Raise, ev_rdL0, ev_rdL1, kC1, ev_rdl, ev_rdr, ev_rdS, kR1, kR2, kR3, kR4, ev_sq1, ev_sq2, ev_sq3, ev_sq4, ev_I2, ev_I1, ev_Abs, ev_Int, ev_At, kAt1, kV1, ev_Len1, ev_Len2, ev_Len3, ev_Tuple, kTu1, ev_List, kLi1, ev_bx0, ev_bx1, ev_bx2, kB1b, ev_bv1, ev_Tup, ev_Lst, kTup_0, kLst_0, kTup_1, kLst_1, kTup_2, kLst_2, kTup_3, kLst_3, kTup_4, kLst_4, kTup_5, kLst_5, kTup_6, kLst_6, kTup_7, kLst_7, kApp1, kAp2a, ev_IsN, ev_IsT, ev_IsT2, kIs1, kIs2a, ev_ty1, ev_ty2, ev_ty3, ev_ty4, ev_ty5, ev_ty7, ev_ty8, ev_SlH, ev_SlL, fSl1, fSl2, fSl3, fSl4, ev_sN, atI_0, atI_1, atI_2, atI_3, atI_4, atI_5, kFor1, kFor2, fin1, fin2, fin3, fin4, ev_Ch, kCh1a, kCh2a, kCh3a, kCh4a, kCh5a, ev_I2c, ev_sq5, ev_ty6, ev_LenS, ev_Len4, ev_CatT, ev_CatL, kTup1, kLst1, kAp3a, ev_App, kAp0a, beq_self_eq_true, isL1, kSq1, kTy1, kTy2, kLe1, ev_Fl, kFl1, kFl2a, ev_SI, kSI1, kSI2a, ev_SF, kSF1, kSF2a, List.length_map, ev_All, List.getElem?_cons_zero, List.getElem?_cons_succ, List.set_cons_zero, List.set_cons_succ, Bool.not_true, Bool.not_false, isa, decide_true, decide_false, Bool.false_eq_true, if_true, if_false, setT, setNs, Option.map_some, isNon, Bool.or_true, Bool.or_false, Bool.true_or, Bool.false_or, ite_true, ite_false, ev_Lk, kLk2, ev_IsO, ev_noX, kNX1, kMe1, kMt1, kMo1, ev_Meth, ev_isIns, kII1, Option.isNone_none, Bool.and_self, pi_Week_0, pi_Week_1, pi_Room_0, pi_Room_1, pi_Room_2, pi_Room_3, pi_Person_1, pi_Person_2, pi_Lesson_1, pi_Lesson_2, pi_Lesson_3, pi_Lesson_4, pi_Lesson_5, pi_Book_0, pi_Book_1, pi_Book_2, pi_Book_3, pi_Book_4, pi_Book_5, pi_Book_6, pi_Book_7, lk_Week_days, lk_Week_periods, lk_Room_closed, lk_Room_name, lk_Person_absent, lk_Person_name, lk_Lesson_starts, lk_Lesson_people, lk_Lesson_name, lk_Book_week, lk_Book_person_named, lk_Book_lesson_named, lk_Book_lessons, ln_Week_has, ln_Book_put_lessons, ln_Book_put_rules, dl_0, dl_1, dl_2, dl_3, dl_4, dl_5, dl_6, dl_7, dm_0, dm_1, dm_2, dm_3, dm_4, dm_5, dm_6, dm_7, dm_8, dm_9, dm_10, dm_11, kio_Week, kio_Room, kio_Person, kio_Lesson, ev_Fg, ev_cl, ev_cl1, *])
section
variable {hp hp' hp1 hp2 hX : List IO} {n w a : Nat} {d p : Int} {l : List (Nat × Str)} {pn zs : List Str} {kvs : List (Key × IV)}
theorem ev_InD {z : Str} {s : S} (h : s.hp[a]? = some (.dct kvs)) : gInDk false [.v (.str z), .v (.ref a)] s = .ok (.v (.bl (valG kvs (.inr z)).isSome)) s := by
  have h1 : dctOf s (.v (.ref a)) = some kvs := by
    simp only [dctOf, h]
  show (match keyR (.v (.str z)), dctOf s (.v (.ref a)) with | some q, some kvs => (Rs.ok (RV.v (.bl (if false = true then !(valG kvs q).isSome else (valG kvs q).isSome))) s : Rs RV) | _, _ => .bad) = _
  rw [h1]
  rfl
/-! keys -/
theorem val_mem {k : Key} : (valG kvs k).isSome = true ↔ k ∈ kvs.map (·.1) := by
  unfold valG
  rw [Option.isSome_map, List.find?_isSome]
  simp only [decide_eq_true_eq, List.mem_map]
theorem put_mem {k q : Key} {v : IV} : q ∈ (putD kvs k v).map (·.1) ↔ q = k ∨ q ∈ kvs.map (·.1) := by
  unfold putD
  cases h : kvs.any fun q => decide (q.1 = k) with
  | true =>
    simp only [List.map_map]
    rw [show ((fun x : Key × IV => x.1) ∘ fun q : Key × IV => (q.1, if q.1 = k then v else q.2)) = fun q => q.1 from rfl]
    constructor
    · exact fun z => .inr z
    · rintro (rfl | z)
      · obtain ⟨x, h1, h2⟩ := List.any_eq_true.mp h
        rw [← of_decide_eq_true h2]
        exact List.mem_map_of_mem h1
      · exact z
  | false =>
    simp only [List.map_append, List.map_cons, List.map_nil, List.mem_append, List.mem_singleton]
    exact Or.comm
abbrev dOf (l : List (Nat × Str)) : List (Key × IV) := l.foldl (fun acc q => putD acc (.inr q.2) (.ref q.1)) []
theorem fold_mem {z : Str} : ∀ {l : List (Nat × Str)} {acc : List (Key × IV)}, ((Sum.inr z : Key) ∈ acc.map (·.1) ∨ ∃ q ∈ l, q.2 = z) → (Sum.inr z : Key) ∈ (l.foldl (fun acc q => putD acc (.inr q.2) (.ref q.1)) acc).map (·.1)
  | [], acc, h => h.elim id fun ⟨q, hq, _⟩ => absurd hq List.not_mem_nil
  | x :: l, acc, h => by
    rw [List.foldl_cons]
    refine fold_mem ?_
    rcases h with h | ⟨q, hq, rfl⟩
    · exact .inl (put_mem.mpr (.inr h))
    · rcases List.mem_cons.mp hq with rfl | hq
      · exact .inl (put_mem.mpr (.inl rfl))
      · exact .inr ⟨q, hq, rfl⟩
theorem d_mem {z : Str} (h : z ∈ l.map (·.2)) : (valG (dOf l) (.inr z)).isSome = true := by
  obtain ⟨q, hq, rfl⟩ := List.mem_map.mp h
  exact val_mem.mpr (fold_mem (.inr ⟨q, hq, rfl⟩))
/-! objects -/
def Gr (hp hp' : List IO) : Prop := ∀ (j : Nat) (o : IO), hp[j]? = some o → hp'[j]? = some o
theorem Gr.refl : Gr hp hp := fun _ _ e => e
theorem Gr.trans (x : Gr hp hp1) (y : Gr hp1 hp2) : Gr hp hp2 := fun j o e => y j o (x j o e)
theorem Gr.app {t : List IO} : Gr hp (hp ++ t) := fun j o e => by
  rw [List.getElem?_append_left (List.getElem?_eq_some_iff.mp e).1]
  exact e
theorem Gr.kp (x : Gr hp hp') : Kp n hp hp' := fun j o _ e => x j o e
def Ob (P : Str → IO → Prop) (hp : List IO) (l : List (Nat × Str)) : Prop := ∀ q ∈ l, ∃ o, hp[q.1]? = some o ∧ P q.2 o
theorem Ob.gr {P : Str → IO → Prop} (o : Ob P hp l) (g : Gr hp hp') : Ob P hp' l := fun q hq => by
  obtain ⟨u, h1, h2⟩ := o q hq
  exact ⟨u, g _ _ h1, h2⟩
theorem Ob.kp {P : Str → IO → Prop} (o : Ob P hp l) (g : Kp n hp hp') (ne : ∀ q ∈ l, q.1 ≠ n) : Ob P hp' l := fun q hq => by
  obtain ⟨u, h1, h2⟩ := o q hq
  exact ⟨u, g _ _ (ne q hq) h1, h2⟩
theorem Ob.lt {P : Str → IO → Prop} (o : Ob P hp l) : ∀ q ∈ l, q.1 < hp.length := fun q hq => by
  obtain ⟨u, h1, _⟩ := o q hq
  exact (List.getElem?_eq_some_iff.mp h1).1
def RoomP (N : Int) (z : Str) (o : IO) : Prop := ∃ (x1 x2 : IV) (cl : List Int), o = .ins "Room" [("name", .str z), ("seats", x1), ("kinds", x2), ("closed", .tup (cl.map .int))] ∧ Lot N cl
def PersP (N : Int) (z : Str) (o : IO) : Prop := ∃ (x1 : IV) (ab : List Int), o = .ins "Person" [("name", .str z), ("absent", .tup (ab.map .int)), ("most", x1)] ∧ Lot N ab
def LessP (N : Int) (pn : List Str) (z : Str) (o : IO) : Prop := ∃ (x1 x3 x4 : IV) (folk : List Str) (st : List Int), o = .ins "Lesson" [("name", .str z), ("length", x1), ("people", .tup (folk.map .str)), ("seats", x3), ("kinds", x4), ("starts", .tup (st.map .int))] ∧ Lot N st ∧ folk.length ≤ 100 ∧ ∀ z ∈ folk, z ∈ pn
theorem Ob.room {N : Int} (o : Ob (RoomP N) hp l) : Objs hp "Room" l := fun q hq => by
  obtain ⟨u, h1, x1, x2, cl, rfl, _⟩ := o q hq
  exact ⟨_, h1, lk_Room_name⟩
theorem Ob.pers {N : Int} (o : Ob (PersP N) hp l) : Objs hp "Person" l := fun q hq => by
  obtain ⟨u, h1, x1, cl, rfl, _⟩ := o q hq
  exact ⟨_, h1, lk_Person_name⟩
theorem Ob.less {N : Int} (o : Ob (LessP N pn) hp l) : Objs hp "Lesson" l := fun q hq => by
  obtain ⟨u, h1, x1, x3, x4, folk, st, rfl, _⟩ := o q hq
  exact ⟨_, h1, lk_Lesson_name⟩
abbrev rfs (l : List (Nat × Str)) : IV := .tup (l.map fun q => .ref q.1)
theorem ite_rd {i : Nat} {env : List (Option RV)} {us : List IV} (h : env[i]? = some (some (.v (.tup us)))) : itE (.ex (mRd i)) ⟨env, hp⟩ = .ok (srcE (srcOf true (.inr (.v (.tup us))))) ⟨env, hp⟩ := by
  unfold itE
  rw [ev_L1, ev_ex, ev_Rd, h]
  rfl
theorem en_at {k : Nat} {x : IV} (h : (enI 0 (l.map fun q => IV.ref q.1))[k]? = some x) : ∃ q, l[k]? = some q ∧ x = .tup [.int (k : Nat), .ref q.1] := by
  rw [en_get, List.getElem?_map] at h
  obtain ⟨y, hy, rfl⟩ := Option.map_eq_some_iff.mp h
  obtain ⟨q, hq, rfl⟩ := Option.map_eq_some_iff.mp hy
  exact ⟨q, hq, by rw [Nat.zero_add]⟩
/-! lessons put -/
abbrev bk5 (w a : Nat) (A B C : IV) : IO := .ins "Book" [("week", .ref w), ("rooms", A), ("people", B), ("room_named", C), ("person_named", .ref a)]
abbrev bk7 (w a a3 : Nat) (A B C L : IV) : IO := .ins "Book" [("week", .ref w), ("rooms", A), ("people", B), ("room_named", C), ("person_named", .ref a), ("lessons", L), ("lesson_named", .ref a3)]
abbrev bk8 (w a a3 : Nat) (A B C L R : IV) : IO := .ins "Book" [("week", .ref w), ("rooms", A), ("people", B), ("room_named", C), ("person_named", .ref a), ("lessons", L), ("lesson_named", .ref a3), ("rules", R)]
theorem pl_body {A B C : IV} {k : Nat} {q : Nat × Str} (hn : hX[n]? = some (bk5 w a A B C)) (hw : hX[w]? = some (wkO d p)) (ha : hX[a]? = some (.dct kvs)) (cm : cMul d p = true) (o : Ob (LessP (d * p) pn) hX l)
    (up : Up (l.map (·.2))) (hk : l[k]? = some q) (hv : ∀ z ∈ pn, (valG kvs (.inr z)).isSome = true) :
    d_Book_put_lessons_2 ⟨[some (.v (.ref n)), some (.v (rfs l)), some (.v (.int (k : Nat))), some (.v (.ref q.1)), none], hX⟩ = .ok .nx ⟨[some (.v (.ref n)), some (.v (rfs l)), some (.v (.int (k : Nat))), some (.v (.ref q.1)), none], hX⟩ := by
  obtain ⟨u, h1, x1, x3, x4, folk, st, rfl, L, f1, f2⟩ := o q (List.mem_of_getElem? hk)
  have e1 := s_slots hw cm L
  have e2 := s_behind (k := k) o.less d_ln up (List.getElem?_eq_some_iff.mp hk).1
  have iD : ∀ (env : List (Option RV)) (z : Str), gInDk false [.v (.str z), .v (.ref a)] ⟨env, hX⟩ = .ok (.v (.bl (valG kvs (.inr z)).isSome)) ⟨env, hX⟩ := fun env z => ev_InD ha
  have e3 : c_Book_put_lessons_1 ⟨[some (.v (.ref n)), some (.v (rfs l)), some (.v (.int (k : Nat))), some (.v (.ref q.1)), none], hX⟩ = .ok (.l (folk.map fun _ => .bl true)) ⟨[some (.v (.ref n)), some (.v (rfs l)), some (.v (.int (k : Nat))), some (.v (.ref q.1)), none], hX⟩ := by
    refine lc_map (src := srcOf true (.inr (.v (.tup (folk.map .str))))) (fun z : Str => .str z) (fun _ : Str => .bl true) folk ?_ ?_ ?_ (by omega) (fun z hz => ⟨⟨[some (.v (.ref n)), some (.v (rfs l)), some (.v (.int (k : Nat))), some (.v (.ref q.1)), some (.v (.str z))], hX⟩, ?_, ?_, ?_⟩)
    · refine its_ex ?_
      clear o up hk hv L f1 f2 e1 e2
      walk_at "py"
    · rfl
    · rfl
    · rfl
    · rfl
    · have hz' := hv z (f2 z hz)
      clear o up hk hv L f1 f2 e1 e2
      walk_at "py"
  have t := @all_tt
  unfold d_Book_put_lessons_2
  clear o up hk hv L f1 f2 iD
  walk_at "py"
theorem s_put_lessons {A B C : IV} (hn : hX[n]? = some (bk5 w a A B C)) (hw : hX[w]? = some (wkO d p)) (ha : hX[a]? = some (.dct kvs)) (cm : cMul d p = true) (o : Ob (LessP (d * p) pn) hX l)
    (up : Up (l.map (·.2))) (hl : l.length ≤ 24) (hv : ∀ z ∈ pn, (valG kvs (.inr z)).isSome = true) :
    f_Book_put_lessons [.v (.ref n), .v (rfs l)] hX = .ok (.v .non) (hX.set n (bk7 w a hX.length A B C (rfs l)) ++ [.dct (dOf l)]) := by
  have nl : n < hX.length := (List.getElem?_eq_some_iff.mp hn).1
  obtain ⟨s', e, e2, e3, rfl⟩ : ∃ s', c_Book_put_lessons_2 ⟨[some (.v (.ref n)), some (.v (rfs l)), none, none, none], hX⟩ = .ok .nx s' ∧ ∃ e2 e3 : Option RV, s' = ⟨[some (.v (.ref n)), some (.v (rfs l)), e2, e3, none], hX⟩ := by
    refine for_inv (s1 := ⟨[some (.v (.ref n)), some (.v (rfs l)), none, none, none], hX⟩) (src := srcE (srcOf true (.inr (.v (rfs l))))) (vs := enI 0 (l.map fun q => IV.ref q.1)) (fun k s' => ∃ e2 e3 : Option RV, s' = ⟨[some (.v (.ref n)), some (.v (rfs l)), e2, e3, none], hX⟩) ?_ ?_ ?_ ?_
    · exact ite_rd rfl
    · exact ⟨none, none, rfl⟩
    · rintro k s ⟨e2, e3, rfl⟩
      rfl
    · rintro k x s hx ⟨e2, e3, rfl⟩
      obtain ⟨q, hq, rfl⟩ := en_at hx
      exact ⟨_, _, rfl, pl_body hn hw ha cm o up hq hv, some (.v (.int (k : Nat))), some (.v (.ref q.1)), rfl⟩
  have gs : ∀ (o : IO) (t : List IO), (hX.set n o ++ t)[n]? = some o := fun o t => by
    rw [List.getElem?_append_left (by rw [List.length_set]; exact nl), List.getElem?_set_self nl]
  have g0 : ∀ o : IO, (hX.set n o)[n]? = some o := fun o => List.getElem?_set_self nl
  have ss : ∀ (o o' : IO) (t : List IO), (hX.set n o ++ t).set n o' = hX.set n o' ++ t := fun o o' t => by
    rw [List.set_append_left _ _ (by rw [List.length_set]; exact nl), List.set_set]
  have ne : ∀ q ∈ l, q.1 ≠ n := fun q hq z => by
    obtain ⟨u, h1, x1, x3, x4, folk, st, rfl, _⟩ := o q hq
    rw [z, hn] at h1
    have := Option.some.inj h1
    injection this with h2 _
    exact absurd h2 (by decide +kernel)
  have e4 : ∀ u, c_Book_put_lessons_3 ⟨[some (.v (.ref n)), some (.v (rfs l)), e2, none, none], hX.set n u⟩ = .ok (.v (.ref hX.length)) ⟨[some (.v (.ref n)), some (.v (rfs l)), e2, none, none], hX.set n u ++ [.dct (dOf l)]⟩ := fun u => by
    have := dc_pure (own := [3]) (mi := itS (.nm 1)) (p := setN 3) (s := ⟨[some (.v (.ref n)), some (.v (rfs l)), e2, none, none], hX.set n u⟩) (src := srcOf true (.inl 1)) (ek := mN [(.nm 3)] (gFl ["Room", "Person", "Lesson"] "name")) (ev := mRd 3) (fun q : Nat × Str => .ref q.1) (fun q : Nat × Str => q.2) (fun q : Nat × Str => .ref q.1) l rfl rfl rfl (by omega) (fun q hq => ⟨⟨[some (.v (.ref n)), some (.v (rfs l)), e2, some (.v (.ref q.1)), none], hX.set n u⟩, rfl, rfl, by
      obtain ⟨fs, h1, h2⟩ := (o.kp (Kp.set (o := u)) ne).less q hq
      clear o up hl hv hn hw ha gs g0 ss ne e
      walk_at "py", rfl⟩)
    rw [show ({ env := [some (RV.v (.ref n)), some (.v (rfs l)), e2, none, none], hp := hX.set n u } : S).hp.length = hX.length from List.length_set ..] at this
    exact this
  have hle : ¬ (24 : Int) < (l.length : Int) := by omega
  rw [v_Book_put_lessons, u_Book_put_lessons]
  clear o up hl hv nl ne
  walk_at "py"
end

end Py

set_option Elab.async false
set_option linter.all false
set_option maxRecDepth 100000
set_option maxHeartbeats 4000000
namespace Py
open PySem PySem.Spec PyProof.Rows L2
local macro_rules | `(tactic| walk_at "py") => `(tactic| simp only [ev_C, ev_tr, ev_Nx, ev_Rd, kRd1, ev_N, kN1, kN2, kG1, ev_L0, ev_L1, kL1a, kL1b, kL2a, kL2b, ev_nm, kNm1, ev_ex, kX1, kX2, kX3, ev_T, kT1, kT2, ev_B, kB1a, ev_And, ev_Or, ev_Not, kNot1, ev_If, ev_IfS, kIf1, kIf2, kIf3, ev_Seq, kSeq1, kSeq2, kSeq3, ev_Drop, kDrop1, kDrop2, ev_Set, kSet1, kSet2, ev_Ret, kRet1, kRet2, kRet3, ev_Par, ev_pL0, ev_pL1, kPut1, ev_put1, ev_put2, ev_Asg, kAsg1, kAs2a, ev_Box, kBox1, kBox2, ev_Call, ev_gCall, kCall1, kCall2, ev_Make, ev_gMake, kMk1, ev_Raise, ev_rdL0, ev_rdL1, kC1, ev_rdl, ev_rdr, ev_rdS, kR1, kR2, kR3, kR4, ev_sq1, ev_sq2, ev_sq3, ev_sq4, ev_I2, ev_I1, ev_Abs, ev_Int, ev_At, kAt1, kV1, ev_Len1, ev_Len2, ev_Len3, ev_Tuple, kTu1, ev_List, kLi1, ev_bx0, ev_bx1, ev_bx2, kB1b, ev_bv1, ev_Tup, ev_Lst, kTup_0, kLst_0, kTup_1, kLst_1, kTup_2, kLst_2, kTup_3, kLst_3, kTup_4, kLst_4, kTup_5, kLst_5, kTup_6, kLst_6, kTup_7, kLst_7, kApp1, kAp2a, ev_IsN, ev_IsT, ev_IsT2, kIs1, kIs2a, ev_ty1, ev_ty2, ev_ty3, ev_ty4, ev_ty5, ev_ty7, ev_ty8, ev_SlH, ev_SlL, fSl1, fSl2, fSl3, fSl4, ev_sN, atI_0, atI_1, atI_2, atI_3, atI_4, atI_5, kFor1, kFor2, fin1, fin2, fin3, fin4, ev_Ch, kCh1a, kCh2a, kCh3a, kCh4a, kCh5a, ev_I2c, ev_sq5, ev_ty6, ev_LenS, ev_Len4, ev_CatT, ev_CatL, kTup1, kLst1, kAp3a, ev_App, kAp0a, beq_self_eq_true, isL1, kSq1, kTy1, kTy2, kLe1, ev_Fl, kFl1, kFl2a, ev_SI, kSI1, kSI2a, ev_SF, kSF1, kSF2a, List.length_map, ev_All, List.getElem?_cons_zero, List.getElem?_cons_succ, List.set_cons_zero, List.set_cons_succ, Bool.not_true, Bool.not_false, isa, decide_true, decide_false, Bool.false_eq_true, if_true, if_false, setT, setNs, Option.map_some, isNon, Bool.or_true, Bool.or_false, Bool.true_or, Bool.false_or, ite_true, ite_false, ev_Lk, kLk2, ev_IsO, ev_noX, kNX1, kMe1, kMt1, kMo1, ev_Meth, ev_isIns, kII1, Option.isNone_none, Bool.and_self, pi_Week_0, pi_Week_1, pi_Room_0, pi_Room_1, pi_Room_2, pi_Room_3, pi_Person_1, pi_Person_2, pi_Lesson_1, pi_Lesson_2, pi_Lesson_3, pi_Lesson_4, pi_Lesson_5, pi_Book_0, pi_Book_1, pi_Book_2, pi_Book_3, pi_Book_4, pi_Book_5, pi_Book_6, pi_Book_7, lk_Week_days, lk_Week_periods, lk_Room_closed, lk_Room_name, lk_Person_absent, lk_Person_name, lk_Lesson_starts, lk_Lesson_people, lk_Lesson_name, lk_Book_week, lk_Book_person_named, lk_Book_lesson_named, lk_Book_lessons, ln_Week_has, ln_Book_put_lessons, ln_Book_put_rules, dl_0, dl_1, dl_2, dl_3, dl_4, dl_5, dl_6, dl_7, dm_0, dm_1, dm_2, dm_3, dm_4, dm_5, dm_6, dm_7, dm_8, dm_9, dm_10, dm_11, kio_Week, kio_Room, kio_Person, kio_Lesson, ev_Fg, ev_cl, ev_cl1, *])
/-! Q14: rules put; the whole book. -/
section
variable {hp hp' hp1 hp2 hX : List IO} {n w a a3 : Nat} {d p : Int} {l : List (Nat × Str)} {pn zs : List Str} {kvs kv3 : List (Key × IV)} {R : List IV}
theorem pr_body {A B C L : IV} {k : Nat} {x : IV} (hn : hX[n]? = some (bk7 w a a3 A B C L)) (ha : hX[a3]? = some (.dct kv3)) (hz : ∀ z ∈ zs, nmB z = true) (O : RulesOk zs R) (hk : R[k]? = some x)
    (hv : ∀ z ∈ zs, (valG kv3 (.inr z)).isSome = true) :
    d_Book_put_rules_2 ⟨[some (.v (.ref n)), some (.v (.tup R)), some (.v (.int (k : Nat))), some (.v x), none], hX⟩ = .ok .nx ⟨[some (.v (.ref n)), some (.v (.tup R)), some (.v (.int (k : Nat))), some (.v x), none], hX⟩ := by
  have hx := O.ok x (List.mem_of_getElem? hk)
  have e1 := s_is_rule (hp := hX) hz hx
  obtain ⟨ns, e2, f1, f2⟩ := s_names_of (hp := hX) hx
  have iD : ∀ (env : List (Option RV)) (z : Str), gInDk false [.v (.str z), .v (.ref a3)] ⟨env, hX⟩ = .ok (.v (.bl (valG kv3 (.inr z)).isSome)) ⟨env, hX⟩ := fun env z => ev_InD ha
  have e3 : c_Book_put_rules_1 ⟨[some (.v (.ref n)), some (.v (.tup R)), some (.v (.int (k : Nat))), some (.v x), none], hX⟩ = .ok (.l (ns.map fun _ => .bl true)) ⟨[some (.v (.ref n)), some (.v (.tup R)), some (.v (.int (k : Nat))), some (.v x), none], hX⟩ := by
    refine lc_map (src := srcOf true (.inr (.v (.tup (ns.map .str))))) (fun z : Str => .str z) (fun _ : Str => .bl true) ns ?_ ?_ ?_ (by omega) (fun z hz' => ⟨⟨[some (.v (.ref n)), some (.v (.tup R)), some (.v (.int (k : Nat))), some (.v x), some (.v (.str z))], hX⟩, ?_, ?_, ?_⟩)
    · refine its_ex ?_
      clear O hk hv hx f1 f2 hz
      walk_at "py"
    · rfl
    · rfl
    · rfl
    · rfl
    · have hz'' := hv z (f1 z hz')
      clear O hk hv hx f1 f2 hz e1 e2
      walk_at "py"
  have t := @all_tt
  have hc : cutI R none (some ((k : Nat) : Int)) = R.take k := cutI_H k
  have g := fun s => in_gen (neg := false) (s := s) (r := .v (.tup (R.take k))) (.inr rfl) (hx.fld hz) (fun y hy => (O.ok y (List.mem_of_mem_take hy)).fld hz)
  rw [O.df k x hk] at g
  unfold d_Book_put_rules_2
  clear O hk hv hx f1 f2 hz iD
  walk_at "py"
theorem s_put_rules {A B C L : IV} (hn : hX[n]? = some (bk7 w a a3 A B C L)) (ha : hX[a3]? = some (.dct kv3)) (hz : ∀ z ∈ zs, nmB z = true) (O : RulesOk zs R) (hR : R.length ≤ 40)
    (hv : ∀ z ∈ zs, (valG kv3 (.inr z)).isSome = true) :
    f_Book_put_rules [.v (.ref n), .v (.tup R)] hX = .ok (.v .non) (hX.set n (bk8 w a a3 A B C L (.tup R))) := by
  obtain ⟨s', e, e2, e3, rfl⟩ : ∃ s', c_Book_put_rules_2 ⟨[some (.v (.ref n)), some (.v (.tup R)), none, none, none], hX⟩ = .ok .nx s' ∧ ∃ e2 e3 : Option RV, s' = ⟨[some (.v (.ref n)), some (.v (.tup R)), e2, e3, none], hX⟩ := by
    refine for_inv (s1 := ⟨[some (.v (.ref n)), some (.v (.tup R)), none, none, none], hX⟩) (src := srcE (srcOf true (.inr (.v (.tup R))))) (vs := enI 0 R) (fun k s' => ∃ e2 e3 : Option RV, s' = ⟨[some (.v (.ref n)), some (.v (.tup R)), e2, e3, none], hX⟩) ?_ ?_ ?_ ?_
    · exact ite_rd rfl
    · exact ⟨none, none, rfl⟩
    · rintro k s ⟨e2, e3, rfl⟩
      rfl
    · rintro k x s hx ⟨e2, e3, rfl⟩
      rw [en_get] at hx
      obtain ⟨y, hy, rfl⟩ := Option.map_eq_some_iff.mp hx
      rw [Nat.zero_add]
      exact ⟨_, _, rfl, pr_body hn ha hz O hy hv, some (.v (.int (k : Nat))), some (.v y), rfl⟩
  have hle : ¬ (40 : Int) < (R.length : Int) := by omega
  rw [v_Book_put_rules, u_Book_put_rules]
  clear O hv hz hR
  walk_at "py"
/-! the book -/
theorem bi_body1 {E3 E4 E5 : Option RV} {e8 : Option RV} {k : Nat} {q : Nat × Str} (hw : hX[w]? = some (wkO d p)) (cm : cMul d p = true) (o : Ob (RoomP (d * p)) hX l) (up : Up (l.map (·.2))) (hk : l[k]? = some q) :
    d_Book_init_1 ⟨[some (.v (.ref n)), some (.v (.ref w)), some (.v (rfs l)), E3, E4, E5, some (.v (.int (k : Nat))), some (.v (.ref q.1)), e8], hX⟩ = .ok .nx ⟨[some (.v (.ref n)), some (.v (.ref w)), some (.v (rfs l)), E3, E4, E5, some (.v (.int (k : Nat))), some (.v (.ref q.1)), e8], hX⟩ := by
  obtain ⟨u, h1, x1, x2, cl, rfl, L⟩ := o q (List.mem_of_getElem? hk)
  have e1 := s_slots hw cm L
  have e2 := s_behind (k := k) o.room dm_0 up (List.getElem?_eq_some_iff.mp hk).1
  unfold d_Book_init_1
  clear o up hk L
  walk_at "py"
theorem bi_body2 {E2 E4 E5 : Option RV} {e7 : Option RV} {k : Nat} {q : Nat × Str} (hw : hX[w]? = some (wkO d p)) (cm : cMul d p = true) (o : Ob (PersP (d * p)) hX l) (up : Up (l.map (·.2))) (hk : l[k]? = some q) :
    d_Book_init_2 ⟨[some (.v (.ref n)), some (.v (.ref w)), E2, some (.v (rfs l)), E4, E5, some (.v (.int (k : Nat))), e7, some (.v (.ref q.1))], hX⟩ = .ok .nx ⟨[some (.v (.ref n)), some (.v (.ref w)), E2, some (.v (rfs l)), E4, E5, some (.v (.int (k : Nat))), e7, some (.v (.ref q.1))], hX⟩ := by
  obtain ⟨u, h1, x1, cl, rfl, L⟩ := o q (List.mem_of_getElem? hk)
  have e1 := s_slots hw cm L
  have e2 := s_behind (k := k) o.pers dm_1 up (List.getElem?_eq_some_iff.mp hk).1
  unfold d_Book_init_2
  clear o up hk L
  walk_at "py"
theorem s_Book {rs ps ls : List (Nat × Str)} (hn : hX[n]? = some (.ins "Book" [])) (hw : hX[w]? = some (wkO d p)) (cm : cMul d p = true)
    (o1 : Ob (RoomP (d * p)) hX rs) (o2 : Ob (PersP (d * p)) hX ps) (o3 : Ob (LessP (d * p) (ps.map (·.2))) hX ls) (u1 : Up (rs.map (·.2))) (u2 : Up (ps.map (·.2))) (u3 : Up (ls.map (·.2)))
    (l1 : rs.length ≤ 12) (l2 : ps.length ≤ 30) (l3 : ls.length ≤ 24) (hz : ∀ z ∈ ls.map (·.2), nmB z = true) (O : RulesOk (ls.map (·.2)) R) (hR : R.length ≤ 40) :
    ∃ hp' fs, f_Book_init [.v (.ref n), .v (.ref w), .v (rfs rs), .v (rfs ps), .v (rfs ls), .v (.tup R)] hX = .ok (.v .non) hp' ∧ Kp n hX hp' ∧ hp'[n]? = some (.ins "Book" fs) ∧ List.lookup ("lessons" : Str) fs = some (rfs ls) := by
  have nl : n < hX.length := (List.getElem?_eq_some_iff.mp hn).1
  have nw : w ≠ n := fun z => by
    rw [z, hn] at hw
    have := Option.some.inj hw
    injection this with h2 _
    exact absurd h2 (by decide +kernel)
  have ne1 : ∀ q ∈ rs, q.1 ≠ n := fun q hq z => by
    obtain ⟨u, h1, x1, x2, cl, rfl, _⟩ := o1 q hq
    rw [z, hn] at h1
    have := Option.some.inj h1
    injection this with h2 _
    exact absurd h2 (by decide +kernel)
  have ne2 : ∀ q ∈ ps, q.1 ≠ n := fun q hq z => by
    obtain ⟨u, h1, x1, cl, rfl, _⟩ := o2 q hq
    rw [z, hn] at h1
    have := Option.some.inj h1
    injection this with h2 _
    exact absurd h2 (by decide +kernel)
  have ne3 : ∀ q ∈ ls, q.1 ≠ n := fun q hq z => by
    obtain ⟨u, h1, x1, x3, x4, folk, st, rfl, _⟩ := o3 q hq
    rw [z, hn] at h1
    have := Option.some.inj h1
    injection this with h2 _
    exact absurd h2 (by decide +kernel)
  obtain ⟨s1, c1, e6, e7, rfl⟩ : ∃ s', c_Book_init_1 ⟨[some (.v (.ref n)), some (.v (.ref w)), some (.v (rfs rs)), some (.v (rfs ps)), some (.v (rfs ls)), some (.v (.tup R)), none, none, none], hX⟩ = .ok .nx s' ∧ ∃ e6 e7 : Option RV, s' = ⟨[some (.v (.ref n)), some (.v (.ref w)), some (.v (rfs rs)), some (.v (rfs ps)), some (.v (rfs ls)), some (.v (.tup R)), e6, e7, none], hX⟩ := by
    refine for_inv (s1 := ⟨[some (.v (.ref n)), some (.v (.ref w)), some (.v (rfs rs)), some (.v (rfs ps)), some (.v (rfs ls)), some (.v (.tup R)), none, none, none], hX⟩) (src := srcE (srcOf true (.inr (.v (rfs rs))))) (vs := enI 0 (rs.map fun q => IV.ref q.1))
      (fun k s' => ∃ e6 e7 : Option RV, s' = ⟨[some (.v (.ref n)), some (.v (.ref w)), some (.v (rfs rs)), some (.v (rfs ps)), some (.v (rfs ls)), some (.v (.tup R)), e6, e7, none], hX⟩) ?_ ?_ ?_ ?_
    · exact ite_rd rfl
    · exact ⟨none, none, rfl⟩
    · rintro k s ⟨e2, e3, rfl⟩
      rfl
    · rintro k x s hx ⟨e2, e3, rfl⟩
      obtain ⟨q, hq, rfl⟩ := en_at hx
      exact ⟨_, _, rfl, bi_body1 hw cm o1 u1 hq, some (.v (.int (k : Nat))), some (.v (.ref q.1)), rfl⟩
  obtain ⟨s2, c2, f6, f8, rfl⟩ : ∃ s', c_Book_init_2 ⟨[some (.v (.ref n)), some (.v (.ref w)), some (.v (rfs rs)), some (.v (rfs ps)), some (.v (rfs ls)), some (.v (.tup R)), e6, e7, none], hX⟩ = .ok .nx s' ∧ ∃ f6 f8 : Option RV, s' = ⟨[some (.v (.ref n)), some (.v (.ref w)), some (.v (rfs rs)), some (.v (rfs ps)), some (.v (rfs ls)), some (.v (.tup R)), f6, e7, f8], hX⟩ := by
    refine for_inv (s1 := ⟨[some (.v (.ref n)), some (.v (.ref w)), some (.v (rfs rs)), some (.v (rfs ps)), some (.v (rfs ls)), some (.v (.tup R)), e6, e7, none], hX⟩) (src := srcE (srcOf true (.inr (.v (rfs ps))))) (vs := enI 0 (ps.map fun q => IV.ref q.1))
      (fun k s' => ∃ f6 f8 : Option RV, s' = ⟨[some (.v (.ref n)), some (.v (.ref w)), some (.v (rfs rs)), some (.v (rfs ps)), some (.v (rfs ls)), some (.v (.tup R)), f6, e7, f8], hX⟩) ?_ ?_ ?_ ?_
    · exact ite_rd rfl
    · exact ⟨e6, none, rfl⟩
    · rintro k s ⟨e2, e3, rfl⟩
      rfl
    · rintro k x s hx ⟨e2, e3, rfl⟩
      obtain ⟨q, hq, rfl⟩ := en_at hx
      exact ⟨_, _, rfl, bi_body2 hw cm o2 u2 hq, some (.v (.int (k : Nat))), some (.v (.ref q.1)), rfl⟩
  have kp : ∀ (o : IO) (t : List IO), Kp n hX (hX.set n o ++ t) := fun o t => Kp.set.trans Gr.app.kp
  have kp0 : ∀ (o : IO), Kp n hX (hX.set n o) := fun o => Kp.set
  have c3 : ∀ u, c_Book_init_3 ⟨[some (.v (.ref n)), some (.v (.ref w)), some (.v (rfs rs)), some (.v (rfs ps)), some (.v (rfs ls)), some (.v (.tup R)), f6, none, f8], hX.set n u⟩ = .ok (.v (.ref hX.length)) ⟨[some (.v (.ref n)), some (.v (.ref w)), some (.v (rfs rs)), some (.v (rfs ps)), some (.v (rfs ls)), some (.v (.tup R)), f6, none, f8], hX.set n u ++ [.dct (dOf rs)]⟩ := fun u => by
    have := dc_pure (own := [7]) (mi := itS (.nm 2)) (p := setN 7) (s := ⟨[some (.v (.ref n)), some (.v (.ref w)), some (.v (rfs rs)), some (.v (rfs ps)), some (.v (rfs ls)), some (.v (.tup R)), f6, none, f8], hX.set n u⟩) (src := srcOf true (.inl 2)) (ek := mN [(.nm 7)] (gFl ["Room", "Person", "Lesson"] "name")) (ev := mRd 7) (fun q : Nat × Str => .ref q.1) (fun q : Nat × Str => q.2) (fun q : Nat × Str => .ref q.1) rs rfl rfl rfl (by omega) (fun q hq => ⟨⟨[some (.v (.ref n)), some (.v (.ref w)), some (.v (rfs rs)), some (.v (rfs ps)), some (.v (rfs ls)), some (.v (.tup R)), f6, some (.v (.ref q.1)), f8], hX.set n u⟩, rfl, rfl, by
      obtain ⟨fs, h1, h2⟩ := (o1.kp (kp0 u) ne1).room q hq
      clear o1 o2 o3 u1 u2 u3 l1 l2 l3 hz O hR kp kp0 ne1 ne2 ne3 c1 c2 hn hw cm
      walk_at "py", rfl⟩)
    rw [show ({ env := [some (RV.v (.ref n)), some (.v (.ref w)), some (.v (rfs rs)), some (.v (rfs ps)), some (.v (rfs ls)), some (.v (.tup R)), f6, none, f8], hp := hX.set n u } : S).hp.length = hX.length from List.length_set ..] at this
    exact this
  have c4 : ∀ u t, c_Book_init_4 ⟨[some (.v (.ref n)), some (.v (.ref w)), some (.v (rfs rs)), some (.v (rfs ps)), some (.v (rfs ls)), some (.v (.tup R)), f6, none, none], hX.set n u ++ [t]⟩ = .ok (.v (.ref (hX.length + 1))) ⟨[some (.v (.ref n)), some (.v (.ref w)), some (.v (rfs rs)), some (.v (rfs ps)), some (.v (rfs ls)), some (.v (.tup R)), f6, none, none], hX.set n u ++ ([t] ++ [.dct (dOf ps)])⟩ := fun u t => by
    have := dc_pure (own := [8]) (mi := itS (.nm 3)) (p := setN 8) (s := ⟨[some (.v (.ref n)), some (.v (.ref w)), some (.v (rfs rs)), some (.v (rfs ps)), some (.v (rfs ls)), some (.v (.tup R)), f6, none, none], hX.set n u ++ [t]⟩) (src := srcOf true (.inl 3)) (ek := mN [(.nm 8)] (gFl ["Room", "Person", "Lesson"] "name")) (ev := mRd 8) (fun q : Nat × Str => .ref q.1) (fun q : Nat × Str => q.2) (fun q : Nat × Str => .ref q.1) ps rfl rfl rfl (by omega) (fun q hq => ⟨⟨[some (.v (.ref n)), some (.v (.ref w)), some (.v (rfs rs)), some (.v (rfs ps)), some (.v (rfs ls)), some (.v (.tup R)), f6, none, some (.v (.ref q.1))], hX.set n u ++ [t]⟩, rfl, rfl, by
      obtain ⟨fs, h1, h2⟩ := (o2.kp (kp u [t]) ne2).pers q hq
      clear o1 o2 o3 u1 u2 u3 l1 l2 l3 hz O hR kp kp0 ne1 ne2 ne3 c1 c2 c3 hn hw cm
      walk_at "py", rfl⟩)
    rw [show ({ env := [some (RV.v (.ref n)), some (.v (.ref w)), some (.v (rfs rs)), some (.v (rfs ps)), some (.v (rfs ls)), some (.v (.tup R)), f6, none, none], hp := hX.set n u ++ [t] } : S).hp.length = hX.length + 1 by
      show (hX.set n u ++ [t]).length = _
      rw [List.length_append, List.length_set]
      rfl] at this
    rw [← List.append_assoc]
    exact this
  have gs : ∀ (o : IO) (t : List IO), (hX.set n o ++ t)[n]? = some o := fun o t => by
    rw [List.getElem?_append_left (by rw [List.length_set]; exact nl), List.getElem?_set_self nl]
  have g0 : ∀ o : IO, (hX.set n o)[n]? = some o := fun o => List.getElem?_set_self nl
  have ss : ∀ (o o' : IO) (t : List IO), (hX.set n o ++ t).set n o' = hX.set n o' ++ t := fun o o' t => by
    rw [List.set_append_left _ _ (by rw [List.length_set]; exact nl), List.set_set]
  have s0 : ∀ (o o' : IO), (hX.set n o).set n o' = hX.set n o' := fun o o' => List.set_set ..
  have hY5 := gs (bk5 w (hX.length + 1) (rfs rs) (rfs ps) (.ref hX.length)) ([.dct (dOf rs)] ++ [.dct (dOf ps)])
  have hYw := kp (bk5 w (hX.length + 1) (rfs rs) (rfs ps) (.ref hX.length)) ([.dct (dOf rs)] ++ [.dct (dOf ps)]) w _ nw hw
  have hYa : (hX.set n (bk5 w (hX.length + 1) (rfs rs) (rfs ps) (.ref hX.length)) ++ ([.dct (dOf rs)] ++ [.dct (dOf ps)]))[hX.length + 1]? = some (.dct (dOf ps)) := by
    rw [List.getElem?_append_right (by rw [List.length_set]; omega), List.length_set, Nat.add_sub_cancel_left]
    rfl
  have kY := kp (bk5 w (hX.length + 1) (rfs rs) (rfs ps) (.ref hX.length)) ([.dct (dOf rs)] ++ [.dct (dOf ps)])
  have m1 := s_put_lessons hY5 hYw hYa cm (o3.kp kY ne3) u3 l3 (fun z hz => d_mem hz)
  generalize hYd : hX.set n (bk5 w (hX.length + 1) (rfs rs) (rfs ps) (.ref hX.length)) ++ ([.dct (dOf rs)] ++ [.dct (dOf ps)]) = Y at m1 kY hY5
  have nY : n < Y.length := (List.getElem?_eq_some_iff.mp hY5).1
  have hZ7 : (Y.set n (bk7 w (hX.length + 1) Y.length (rfs rs) (rfs ps) (.ref hX.length) (rfs ls)) ++ [.dct (dOf ls)])[n]? = some (bk7 w (hX.length + 1) Y.length (rfs rs) (rfs ps) (.ref hX.length) (rfs ls)) := by
    rw [List.getElem?_append_left (by rw [List.length_set]; exact nY), List.getElem?_set_self nY]
  have hZa : (Y.set n (bk7 w (hX.length + 1) Y.length (rfs rs) (rfs ps) (.ref hX.length) (rfs ls)) ++ [.dct (dOf ls)])[Y.length]? = some (.dct (dOf ls)) := by
    rw [List.getElem?_append_right (by rw [List.length_set]; exact Nat.le_refl _), List.length_set, Nat.sub_self]
    rfl
  have m2 := s_put_rules hZ7 hZa hz O hR (fun z hz => d_mem hz)
  have kZ : Kp n Y (Y.set n (bk7 w (hX.length + 1) Y.length (rfs rs) (rfs ps) (.ref hX.length) (rfs ls)) ++ [.dct (dOf ls)]) := Kp.set.trans Gr.app.kp
  generalize Y.set n (bk7 w (hX.length + 1) Y.length (rfs rs) (rfs ps) (.ref hX.length) (rfs ls)) ++ [.dct (dOf ls)] = Z at m1 m2 hZ7 kZ
  have nZ : n < Z.length := (List.getElem?_eq_some_iff.mp hZ7).1
  refine ⟨Z.set n (bk8 w (hX.length + 1) Y.length (rfs rs) (rfs ps) (.ref hX.length) (rfs ls) (.tup R)), _, ?_, (kY.trans kZ).trans Kp.set, List.getElem?_set_self nZ, lk_Book_lessons⟩
  have hl1 : ¬ (12 : Int) < (rs.length : Int) := by omega
  have hl2 : ¬ (30 : Int) < (ps.length : Int) := by omega
  rw [v_Book_init, u_Book_init]
  clear o1 o2 o3 u1 u2 u3 l1 l2 l3 hz O hR kp kp0 ne1 ne2 ne3 cm kY kZ nZ nY nl nw hYw hYa hZa
  walk_at "py"
end

end Py

set_option Elab.async false
set_option linter.all false
set_option maxRecDepth 100000
set_option maxHeartbeats 4000000
namespace Py
open PySem PySem.Spec PyProof.Rows L2
local macro_rules | `(tactic| walk_at "py") => `(tactic| simp only [ev_C, ev_tr, ev_Nx, ev_Rd, kRd1, ev_N, kN1, kN2, kG1, ev_L0, ev_L1, kL1a, kL1b, kL2a, kL2b, ev_nm, kNm1, ev_ex, kX1, kX2, kX3, ev_T, kT1, kT2, ev_B, kB1a, ev_And, ev_Or, ev_Not, kNot1, ev_If, ev_IfS, kIf1, kIf2, kIf3, ev_Seq, kSeq1, kSeq2, kSeq3, ev_Drop, kDrop1, kDrop2, ev_Set, kSet1, kSet2, ev_Ret, kRet1, kRet2, kRet3, ev_Par, ev_pL0, ev_pL1, kPut1, ev_put1, ev_put2, ev_Asg, kAsg1, kAs2a, ev_Box, kBox1, kBox2, ev_Call, ev_gCall, kCall1, kCall2, ev_Make, ev_gMake, kMk1, ev_Raise, ev_rdL0, ev_rdL1, kC1, ev_rdl, ev_rdr, ev_rdS, kR1, kR2, kR3, kR4, ev_sq1, ev_sq2, ev_sq3, ev_sq4, ev_I2, ev_I1, ev_Abs, ev_Int, ev_At, kAt1, kV1, ev_Len1, ev_Len2, ev_Len3, ev_Tuple, kTu1, ev_List, kLi1, ev_bx0, ev_bx1, ev_bx2, kB1b, ev_bv1, ev_Tup, ev_Lst, kTup_0, kLst_0, kTup_1, kLst_1, kTup_2, kLst_2, kTup_3, kLst_3, kTup_4, kLst_4, kTup_5, kLst_5, kTup_6, kLst_6, kTup_7, kLst_7, kApp1, kAp2a, ev_IsN, ev_IsT, ev_IsT2, kIs1, kIs2a, ev_ty1, ev_ty2, ev_ty3, ev_ty4, ev_ty5, ev_ty7, ev_ty8, ev_SlH, ev_SlL, fSl1, fSl2, fSl3, fSl4, ev_sN, atI_0, atI_1, atI_2, atI_3, atI_4, atI_5, kFor1, kFor2, fin1, fin2, fin3, fin4, ev_Ch, kCh1a, kCh2a, kCh3a, kCh4a, kCh5a, ev_I2c, ev_sq5, ev_ty6, ev_LenS, ev_Len4, ev_CatT, ev_CatL, kTup1, kLst1, kAp3a, ev_App, kAp0a, beq_self_eq_true, isL1, kSq1, kTy1, kTy2, kLe1, ev_Fl, kFl1, kFl2a, ev_SI, kSI1, kSI2a, ev_SF, kSF1, kSF2a, List.length_map, ev_All, List.getElem?_cons_zero, List.getElem?_cons_succ, List.set_cons_zero, List.set_cons_succ, Bool.not_true, Bool.not_false, isa, decide_true, decide_false, Bool.false_eq_true, if_true, if_false, setT, setNs, Option.map_some, isNon, Bool.or_true, Bool.or_false, Bool.true_or, Bool.false_or, ite_true, ite_false, ev_Lk, kLk2, ev_IsO, ev_noX, kNX1, kMe1, kMt1, kMo1, ev_Meth, ev_isIns, kII1, Option.isNone_none, Bool.and_self, pi_Week_0, pi_Week_1, pi_Room_0, pi_Room_1, pi_Room_2, pi_Room_3, pi_Person_1, pi_Person_2, pi_Lesson_1, pi_Lesson_2, pi_Lesson_3, pi_Lesson_4, pi_Lesson_5, pi_Book_0, pi_Book_1, pi_Book_2, pi_Book_3, pi_Book_4, pi_Book_5, pi_Book_6, pi_Book_7, lk_Week_days, lk_Week_periods, lk_Room_closed, lk_Room_name, lk_Person_absent, lk_Person_name, lk_Lesson_starts, lk_Lesson_people, lk_Lesson_name, lk_Book_week, lk_Book_person_named, lk_Book_lesson_named, lk_Book_lessons, ln_Week_has, ln_Book_put_lessons, ln_Book_put_rules, dl_0, dl_1, dl_2, dl_3, dl_4, dl_5, dl_6, dl_7, dm_0, dm_1, dm_2, dm_3, dm_4, dm_5, dm_6, dm_7, dm_8, dm_9, dm_10, dm_11, kio_Week, kio_Room, kio_Person, kio_Lesson, ev_Fg, ev_cl, ev_cl1, *])
/-! Q15: refused. -/
def kW2 (s : S) : Option IV → Rs RV
  | some z => (match litV z with
      | some _ => .ok (.v z) s
      | none => .bad)
  | none => .bad
def kW (wf : Str → Option IV) : Rs RV → Rs RV
  | .ok (.v r) s1 => .ok (.v r) s1
  | .exn c [] s1 => kW2 s1 (wf c)
  | _ => .bad
theorem ev_W {wf : Str → Option IV} {m : M RV} {s : S} : mWord wf m s = kW wf (m s) := by
  unfold mWord kW
  rcases m s with ⟨r, s1⟩ | ⟨c, fs, s1⟩ | _
  · cases r <;> rfl
  · cases fs with
    | nil => 
      show (match wf c with | some z => (match litV z with | some _ => (Rs.ok (RV.v z) s1 : Rs RV) | none => .bad) | none => .bad) = kW2 s1 (wf c)
      cases wf c <;> rfl
    | cons _ _ => rfl
  · rfl
theorem kW1 {wf : Str → Option IV} {c : Str} {s : S} : kW wf (.exn c [] s) = kW2 s (wf c) := rfl
theorem kW2a {z : Str} {s : S} : kW2 s (some (.str z)) = .ok (.v (.str z)) s := rfl
theorem wf_nt : wf39 "NoTimetable" = some (.str "!NoTimetable") := if_pos rfl
local macro_rules | `(tactic| walk_at "py") => `(tactic| simp only [ev_C, ev_tr, ev_Nx, ev_Rd, kRd1, ev_N, kN1, kN2, kG1, ev_L0, ev_L1, kL1a, kL1b, kL2a, kL2b, ev_nm, kNm1, ev_ex, kX1, kX2, kX3, ev_T, kT1, kT2, ev_B, kB1a, ev_And, ev_Or, ev_Not, kNot1, ev_If, ev_IfS, kIf1, kIf2, kIf3, ev_Seq, kSeq1, kSeq2, kSeq3, ev_Drop, kDrop1, kDrop2, ev_Set, kSet1, kSet2, ev_Ret, kRet1, kRet2, kRet3, ev_Par, ev_pL0, ev_pL1, kPut1, ev_put1, ev_put2, ev_Asg, kAsg1, kAs2a, ev_Box, kBox1, kBox2, ev_Call, ev_gCall, kCall1, kCall2, ev_Make, ev_gMake, kMk1, ev_Raise, ev_rdL0, ev_rdL1, kC1, ev_rdl, ev_rdr, ev_rdS, kR1, kR2, kR3, kR4, ev_sq1, ev_sq2, ev_sq3, ev_sq4, ev_I2, ev_I1, ev_Abs, ev_Int, ev_At, kAt1, kV1, ev_Len1, ev_Len2, ev_Len3, ev_Tuple, kTu1, ev_List, kLi1, ev_bx0, ev_bx1, ev_bx2, kB1b, ev_bv1, ev_Tup, ev_Lst, kTup_0, kLst_0, kTup_1, kLst_1, kTup_2, kLst_2, kTup_3, kLst_3, kTup_4, kLst_4, kTup_5, kLst_5, kTup_6, kLst_6, kTup_7, kLst_7, kApp1, kAp2a, ev_IsN, ev_IsT, ev_IsT2, kIs1, kIs2a, ev_ty1, ev_ty2, ev_ty3, ev_ty4, ev_ty5, ev_ty7, ev_ty8, ev_SlH, ev_SlL, fSl1, fSl2, fSl3, fSl4, ev_sN, atI_0, atI_1, atI_2, atI_3, atI_4, atI_5, kFor1, kFor2, fin1, fin2, fin3, fin4, ev_Ch, kCh1a, kCh2a, kCh3a, kCh4a, kCh5a, ev_I2c, ev_sq5, ev_ty6, ev_LenS, ev_Len4, ev_CatT, ev_CatL, kTup1, kLst1, kAp3a, ev_App, kAp0a, beq_self_eq_true, isL1, kSq1, kTy1, kTy2, kLe1, ev_Fl, kFl1, kFl2a, ev_SI, kSI1, kSI2a, ev_SF, kSF1, kSF2a, List.length_map, ev_All, List.getElem?_cons_zero, List.getElem?_cons_succ, List.set_cons_zero, List.set_cons_succ, Bool.not_true, Bool.not_false, isa, decide_true, decide_false, Bool.false_eq_true, if_true, if_false, setT, setNs, Option.map_some, isNon, Bool.or_true, Bool.or_false, Bool.true_or, Bool.false_or, ite_true, ite_false, ev_Lk, kLk2, ev_IsO, ev_noX, kNX1, kMe1, kMt1, kMo1, ev_Meth, ev_isIns, kII1, Option.isNone_none, Bool.and_self, pi_Week_0, pi_Week_1, pi_Room_0, pi_Room_1, pi_Room_2, pi_Room_3, pi_Person_1, pi_Person_2, pi_Lesson_1, pi_Lesson_2, pi_Lesson_3, pi_Lesson_4, pi_Lesson_5, pi_Book_0, pi_Book_1, pi_Book_2, pi_Book_3, pi_Book_4, pi_Book_5, pi_Book_6, pi_Book_7, lk_Week_days, lk_Week_periods, lk_Room_closed, lk_Room_name, lk_Person_absent, lk_Person_name, lk_Lesson_starts, lk_Lesson_people, lk_Lesson_name, lk_Book_week, lk_Book_person_named, lk_Book_lesson_named, lk_Book_lessons, ln_Week_has, ln_Book_put_lessons, ln_Book_put_rules, dl_0, dl_1, dl_2, dl_3, dl_4, dl_5, dl_6, dl_7, dm_0, dm_1, dm_2, dm_3, dm_4, dm_5, dm_6, dm_7, dm_8, dm_9, dm_10, dm_11, kio_Week, kio_Room, kio_Person, kio_Lesson, ev_Fg, ev_cl, ev_cl1, ev_W, kW1, kW2a, wf_nt, *])
section
variable {hp hp' hp1 hp2 : List IO} {b h : Nat} {A B C : IV} {ns : List (Nat × Str)}
theorem mg_i (m : f_check_whole [.v (.ref b), .v A] hp = .exn "NoTimetable" [] hp) : ∃ s : S, c_merged_1 ⟨[some (.v (.ref b)), some (.v A), some (.v B), some (.v C), none, none, none, none, none, none, none, none], hp⟩ = .exn "NoTimetable" [] s ∧ s.hp = hp := by
  unfold c_merged_1 d_merged_1
  rw [mFor_eq (vs := [A, B, C]) (its_ex (vs := [A, B, C]) (by clear m; walk_at "py")) rfl]
  show ∃ s, forL _ [A, B, C].length _ _ 3 _ = _ ∧ _
  rw [forL_step (x := A) (vs := [A, B, C]) rfl rfl rfl]
  have s1 : mDrop (mCall f_check_whole [(.nm 0), (.nm 4)]) ⟨[some (.v (.ref b)), some (.v A), some (.v B), some (.v C), some (.v A), none, none, none, none, none, none, none], hp⟩ = .exn "NoTimetable" [] ⟨[some (.v (.ref b)), some (.v A), some (.v B), some (.v C), some (.v A), none, none, none, none, none, none, none], hp⟩ := by walk_at "py"
  rw [show mDrop (mCall f_check_whole [(.nm 0), (.nm 4)]) (S.mk (List.set [some (.v (.ref b)), some (.v A), some (.v B), some (.v C), none, none, none, none, none, none, none, none] 4 (some (.v A))) hp) = _ from s1, kFor2]
  exact ⟨_, rfl, rfl⟩
theorem mg_ii (h1 : f_check_whole [.v (.ref b), .v A] hp = .ok (.v .non) hp) (m : f_check_whole [.v (.ref b), .v B] hp = .exn "NoTimetable" [] hp) : ∃ s : S, c_merged_1 ⟨[some (.v (.ref b)), some (.v A), some (.v B), some (.v C), none, none, none, none, none, none, none, none], hp⟩ = .exn "NoTimetable" [] s ∧ s.hp = hp := by
  unfold c_merged_1 d_merged_1
  rw [mFor_eq (vs := [A, B, C]) (its_ex (vs := [A, B, C]) (by clear m h1; walk_at "py")) rfl]
  show ∃ s, forL _ [A, B, C].length _ _ 3 _ = _ ∧ _
  rw [forL_step (x := A) (vs := [A, B, C]) rfl rfl rfl]
  have s1 : mDrop (mCall f_check_whole [(.nm 0), (.nm 4)]) ⟨[some (.v (.ref b)), some (.v A), some (.v B), some (.v C), some (.v A), none, none, none, none, none, none, none], hp⟩ = .ok .nx ⟨[some (.v (.ref b)), some (.v A), some (.v B), some (.v C), some (.v A), none, none, none, none, none, none, none], hp⟩ := by walk_at "py"
  rw [show mDrop (mCall f_check_whole [(.nm 0), (.nm 4)]) (S.mk (List.set [some (.v (.ref b)), some (.v A), some (.v B), some (.v C), none, none, none, none, none, none, none, none] 4 (some (.v A))) hp) = _ from s1, kFor1]
  rw [forL_step (x := B) (vs := [A, B, C]) rfl rfl rfl]
  have s2 : mDrop (mCall f_check_whole [(.nm 0), (.nm 4)]) ⟨[some (.v (.ref b)), some (.v A), some (.v B), some (.v C), some (.v B), none, none, none, none, none, none, none], hp⟩ = .exn "NoTimetable" [] ⟨[some (.v (.ref b)), some (.v A), some (.v B), some (.v C), some (.v B), none, none, none, none, none, none, none], hp⟩ := by walk_at "py"
  rw [show mDrop (mCall f_check_whole [(.nm 0), (.nm 4)]) (S.mk (List.set [some (.v (.ref b)), some (.v A), some (.v B), some (.v C), some (.v A), none, none, none, none, none, none, none] 4 (some (.v B))) hp) = _ from s2, kFor2]
  exact ⟨_, rfl, rfl⟩
theorem mg_iii (h1 : f_check_whole [.v (.ref b), .v A] hp = .ok (.v .non) hp) (h2 : f_check_whole [.v (.ref b), .v B] hp = .ok (.v .non) hp) (m : f_check_whole [.v (.ref b), .v C] hp = .exn "NoTimetable" [] hp) : ∃ s : S, c_merged_1 ⟨[some (.v (.ref b)), some (.v A), some (.v B), some (.v C), none, none, none, none, none, none, none, none], hp⟩ = .exn "NoTimetable" [] s ∧ s.hp = hp := by
  unfold c_merged_1 d_merged_1
  rw [mFor_eq (vs := [A, B, C]) (its_ex (vs := [A, B, C]) (by clear m h1 h2; walk_at "py")) rfl]
  show ∃ s, forL _ [A, B, C].length _ _ 3 _ = _ ∧ _
  rw [forL_step (x := A) (vs := [A, B, C]) rfl rfl rfl]
  have s1 : mDrop (mCall f_check_whole [(.nm 0), (.nm 4)]) ⟨[some (.v (.ref b)), some (.v A), some (.v B), some (.v C), some (.v A), none, none, none, none, none, none, none], hp⟩ = .ok .nx ⟨[some (.v (.ref b)), some (.v A), some (.v B), some (.v C), some (.v A), none, none, none, none, none, none, none], hp⟩ := by walk_at "py"
  rw [show mDrop (mCall f_check_whole [(.nm 0), (.nm 4)]) (S.mk (List.set [some (.v (.ref b)), some (.v A), some (.v B), some (.v C), none, none, none, none, none, none, none, none] 4 (some (.v A))) hp) = _ from s1, kFor1]
  rw [forL_step (x := B) (vs := [A, B, C]) rfl rfl rfl]
  have s2 : mDrop (mCall f_check_whole [(.nm 0), (.nm 4)]) ⟨[some (.v (.ref b)), some (.v A), some (.v B), some (.v C), some (.v B), none, none, none, none, none, none, none], hp⟩ = .ok .nx ⟨[some (.v (.ref b)), some (.v A), some (.v B), some (.v C), some (.v B), none, none, none, none, none, none, none], hp⟩ := by walk_at "py"
  rw [show mDrop (mCall f_check_whole [(.nm 0), (.nm 4)]) (S.mk (List.set [some (.v (.ref b)), some (.v A), some (.v B), some (.v C), some (.v A), none, none, none, none, none, none, none] 4 (some (.v B))) hp) = _ from s2, kFor1]
  rw [forL_step (x := C) (vs := [A, B, C]) rfl rfl rfl]
  have s3 : mDrop (mCall f_check_whole [(.nm 0), (.nm 4)]) ⟨[some (.v (.ref b)), some (.v A), some (.v B), some (.v C), some (.v C), none, none, none, none, none, none, none], hp⟩ = .exn "NoTimetable" [] ⟨[some (.v (.ref b)), some (.v A), some (.v B), some (.v C), some (.v C), none, none, none, none, none, none, none], hp⟩ := by walk_at "py"
  rw [show mDrop (mCall f_check_whole [(.nm 0), (.nm 4)]) (S.mk (List.set [some (.v (.ref b)), some (.v A), some (.v B), some (.v C), some (.v B), none, none, none, none, none, none, none] 4 (some (.v C))) hp) = _ from s3, kFor2]
  exact ⟨_, rfl, rfl⟩
theorem mg_no (h : ∃ s : S, c_merged_1 ⟨[some (.v (.ref b)), some (.v A), some (.v B), some (.v C), none, none, none, none, none, none, none, none], hp⟩ = .exn "NoTimetable" [] s ∧ s.hp = hp) : f_merged [.v (.ref b), .v A, .v B, .v C] hp = .exn "NoTimetable" [] hp := by
  obtain ⟨s, e1, e2⟩ := h
  rw [v_merged, u_merged]
  walk_at "py"
theorem un_no1 (m : f_check_whole [.v (.ref b), .v A] hp = .exn "NoTimetable" [] hp) : f_unlike_in [.v (.ref b), .v A, .v B] hp = .exn "NoTimetable" [] hp := by
  rw [v_unlike_in, u_unlike_in]
  walk_at "py"
theorem un_no2 (h1 : f_check_whole [.v (.ref b), .v A] hp = .ok (.v .non) hp) (m : f_check_whole [.v (.ref b), .v B] hp = .exn "NoTimetable" [] hp) : f_unlike_in [.v (.ref b), .v A, .v B] hp = .exn "NoTimetable" [] hp := by
  rw [v_unlike_in, u_unlike_in]
  walk_at "py"
/-! odd ones -/
def otr (x : IV) : Option T3 → IV
  | none => x
  | some t => tr t
/-- an item that is laid or not -/
def LB (hp : List IO) (x : IV) (k : Bool) : Prop := f_is_laid [.v x] hp = .ok (.v (.bl k)) hp
theorem tt_no {x : IV} {ts : List T3} (hx : LB hp x false) (h : ∀ t ∈ ts, GT t) (hl : ts.length ≤ 1000) : f_is_timetable [.v (.tup (x :: ts.map tr))] hp = .ok (.v (.bl false)) hp := by
  have c1 : c_is_timetable_1 ⟨[some (.v (.tup (x :: ts.map tr))), none], hp⟩ = .ok (.l ((none :: ts.map some).map fun o : Option T3 => .bl o.isSome)) ⟨[some (.v (.tup (x :: ts.map tr))), none], hp⟩ := by
    refine lc_map (src := srcOf true (.inl 0)) (otr x) (fun o : Option T3 => .bl o.isSome) (none :: ts.map some) rfl ?_ rfl (by rw [List.length_cons, List.length_map]; omega) (fun o ho => ⟨⟨[some (.v (.tup (x :: ts.map tr))), some (.v (otr x o))], hp⟩, rfl, rfl, ?_⟩)
    · show some (x :: ts.map tr) = _
      rw [List.map_cons, List.map_map]
      rfl
    · cases o with
      | none =>
        have e : f_is_laid [.v x] hp = .ok (.v (.bl false)) hp := hx
        clear h hl hx ho
        show mCall f_is_laid [.nm 1] ⟨[some (.v (.tup (x :: ts.map tr))), some (.v x)], hp⟩ = .ok (.v (.bl false)) ⟨[some (.v (.tup (x :: ts.map tr))), some (.v x)], hp⟩
        walk_at "py"
      | some t =>
        have ht : t ∈ ts := by
          rcases List.mem_cons.mp ho with ho | ho
          · cases ho
          · obtain ⟨u, h1, h2⟩ := List.mem_map.mp ho
            cases h2
            exact h1
        have e := s_laid (hp := hp) (h t ht)
        clear h hl hx ho ht
        show mCall f_is_laid [.nm 1] ⟨[some (.v (.tup (x :: ts.map tr))), some (.v (tr t))], hp⟩ = .ok (.v (.bl true)) ⟨[some (.v (.tup (x :: ts.map tr))), some (.v (tr t))], hp⟩
        walk_at "py"
  have g : ∀ s : S, gAll [.l ((none :: ts.map some).map fun o : Option T3 => .bl o.isSome)] s = .ok (.v (.bl false)) s := fun s => by
    rw [ev_All, List.all_cons]
    rfl
  rw [v_is_timetable, u_is_timetable]
  clear h hl hx
  walk_at "py"
theorem tt_non : f_is_timetable [.v .non] hp = .ok (.v (.bl false)) hp := rfl
theorem tt_str {z : Str} : f_is_timetable [.v (.str z)] hp = .ok (.v (.bl false)) hp := rfl
theorem tt_ref {j : Nat} {vs : List IV} (hj : hp[j]? = some (.lst vs)) : f_is_timetable [.v (.ref j)] hp = .ok (.v (.bl false)) hp := by
  have i1 : isa .list .tuple = false := rfl
  rw [v_is_timetable, u_is_timetable]
  walk_at "py"
theorem zoo_ok : nmB "zoo" = true := by decide +kernel
theorem big_ok : nmB "big" = true := by decide +kernel
section
variable {a r : Str} {i : Int}
theorem lb_two : LB hp (.tup [.str a, .int i]) false := by
  have q1 : ∀ (x y : IV) (s : S), gEq true [.v (.int ([x, y].length : Nat)), .v (.int 3)] s = .ok (.v (.bl true)) s := fun _ _ _ => rfl
  unfold LB
  rw [v_is_laid, u_is_laid]
  walk_at "py"
theorem lb_three : ∀ (x y z : IV) (s : S), gEq true [.v (.int ([x, y, z].length : Nat)), .v (.int 3)] s = .ok (.v (.bl false)) s := fun _ _ _ _ => rfl
theorem lb_one (ha : nmB a = true) : LB hp (.tup [.str a, .str "1", .str r]) false := by
  have q1 := lb_three
  have q2 := s_name (hp := hp) ha
  have q3 := @s_num_s
  unfold LB
  rw [v_is_laid, u_is_laid]
  clear ha
  walk_at "py"
theorem lb_neg (ha : nmB a = true) : LB hp (.tup [.str a, .int (-1), .str r]) false := by
  have q1 := lb_three
  have q2 := s_name (hp := hp) ha
  have q3 := @s_num
  have q4 : ¬ (0 : Int) ≤ -1 := by decide
  unfold LB
  rw [v_is_laid, u_is_laid]
  clear ha
  walk_at "py"
theorem lb_room (ha : nmB a = true) (hi : 0 ≤ i) : LB hp (.tup [.str a, .int i, .int 3]) false := by
  have q1 := lb_three
  have q2 := s_name (hp := hp) ha
  have q3 := @s_num
  have q4 := @s_name_i
  unfold LB
  rw [v_is_laid, u_is_laid]
  clear ha
  walk_at "py"
theorem lb_non : LB hp .non false := rfl
/-- the odd ones -/
abbrev odds (j : Nat) (a r : Str) (i : Int) (rest : List IV) : List IV :=
  [.non, .tup [], .ref j, .tup ((.tup [.str a, .int i, .str r] :: rest) ++ [.tup [.str a, .int i, .str r]]), .tup rest, .str "rows", .tup ((.tup [.str a, .int i, .str r] :: rest) ++ [.tup [.str "zoo", .int 0, .str "big"]])] ++
    [IV.tup [.str a, .int i], .tup [.str "zoo", .int i, .str r], .tup [.str a, .str "1", .str r], .tup [.str a, .int (-1), .str r], .tup [.str a, .int i, .int 3], .non].map (fun x => .tup (x :: rest))
theorem odd_no {j : Nat} {ts : List T3} {vs : List IV} (k : Bk hp b ns) (hj : hp[j]? = some (.lst vs)) (g0 : GT (a, i, r)) (g : ∀ t ∈ ts, GT t) (hl : ts.length ≤ 100) (hn : a :: ts.map (·.1) = ns.map (·.2)) (hzoo : "zoo" ≠ a) :
    ∀ x ∈ odds j a r i (ts.map tr), f_check_whole [.v (.ref b), .v x] hp = .exn "NoTimetable" [] hp := by
  have hlen : ns.length = ts.length + 1 := by
    have := congrArg List.length hn
    rw [List.length_cons, List.length_map, List.length_map] at this
    omega
  have by_len : ∀ us : List T3, us.length ≠ ns.length → us.map (·.1) ≠ ns.map (·.2) := fun us h e => h (by
    have := congrArg List.length e
    rwa [List.length_map, List.length_map] at this)
  intro x hx
  simp only [odds, List.map_cons, List.map_nil, List.cons_append, List.nil_append, List.mem_cons, List.not_mem_nil, or_false] at hx
  rcases hx with rfl | rfl | rfl | rfl | rfl | rfl | rfl | rfl | rfl | rfl | rfl | rfl | rfl
  · exact cw_no tt_non
  · exact cw_ne (ts := []) k (fun t h => absurd h List.not_mem_nil) (Nat.zero_le _) (by_len [] (by rw [List.length_nil]; omega))
  · exact cw_no (tt_ref hj)
  · have := cw_ne (ts := (a, i, r) :: ts ++ [(a, i, r)]) k (by
      intro t ht
      simp only [List.cons_append, List.mem_cons, List.mem_append, List.not_mem_nil, or_false] at ht
      rcases ht with rfl | ht | rfl
      · exact g0
      · exact g t ht
      · exact g0) (by rw [List.length_append, List.length_cons, List.length_singleton]; omega) (by_len _ (by rw [List.length_append, List.length_cons, List.length_singleton]; omega))
    rw [List.map_append, List.map_cons] at this
    exact this
  · exact cw_ne k g (by omega) (by_len ts (by omega))
  · exact cw_no tt_str
  · have := cw_ne (ts := (a, i, r) :: ts ++ [((("zoo" : Str), (0 : Int), ("big" : Str)) : T3)]) k (by
      intro t ht
      simp only [List.cons_append, List.mem_cons, List.mem_append, List.not_mem_nil, or_false] at ht
      rcases ht with rfl | ht | rfl
      · exact g0
      · exact g t ht
      · exact gt_mk zoo_ok (by decide) big_ok) (by rw [List.length_append, List.length_cons, List.length_singleton]; omega) (by_len _ (by rw [List.length_append, List.length_cons, List.length_singleton]; omega))
    rw [List.map_append, List.map_cons] at this
    exact this
  · exact cw_no (tt_no lb_two g (by omega))
  · have := cw_ne (ts := ((("zoo" : Str), i, r) : T3) :: ts) k (by
      intro t ht
      rcases List.mem_cons.mp ht with rfl | ht
      · exact gt_mk zoo_ok g0.s g0.r
      · exact g t ht) (by rw [List.length_cons]; omega) (by
      rw [← hn, List.map_cons]
      intro e
      injection e with e1 _
      exact hzoo e1)
    rw [List.map_cons] at this
    exact this
  · exact cw_no (tt_no (lb_one g0.n) g (by omega))
  · exact cw_no (tt_no (lb_neg g0.n) g (by omega))
  · exact cw_no (tt_no (lb_room g0.n g0.s) g (by omega))
  · exact cw_no (tt_no lb_non g (by omega))
end
end

end Py

set_option Elab.async false
set_option linter.all false
set_option maxRecDepth 100000
set_option maxHeartbeats 4000000
namespace Py
open PySem PySem.Spec PyProof.Rows L2
local macro_rules | `(tactic| walk_at "py") => `(tactic| simp only [ev_C, ev_tr, ev_Nx, ev_Rd, kRd1, ev_N, kN1, kN2, kG1, ev_L0, ev_L1, kL1a, kL1b, kL2a, kL2b, ev_nm, kNm1, ev_ex, kX1, kX2, kX3, ev_T, kT1, kT2, ev_B, kB1a, ev_And, ev_Or, ev_Not, kNot1, ev_If, ev_IfS, kIf1, kIf2, kIf3, ev_Seq, kSeq1, kSeq2, kSeq3, ev_Drop, kDrop1, kDrop2, ev_Set, kSet1, kSet2, ev_Ret, kRet1, kRet2, kRet3, ev_Par, ev_pL0, ev_pL1, kPut1, ev_put1, ev_put2, ev_Asg, kAsg1, kAs2a, ev_Box, kBox1, kBox2, ev_Call, ev_gCall, kCall1, kCall2, ev_Make, ev_gMake, kMk1, ev_Raise, ev_rdL0, ev_rdL1, kC1, ev_rdl, ev_rdr, ev_rdS, kR1, kR2, kR3, kR4, ev_sq1, ev_sq2, ev_sq3, ev_sq4, ev_I2, ev_I1, ev_Abs, ev_Int, ev_At, kAt1, kV1, ev_Len1, ev_Len2, ev_Len3, ev_Tuple, kTu1, ev_List, kLi1, ev_bx0, ev_bx1, ev_bx2, kB1b, ev_bv1, ev_Tup, ev_Lst, kTup_0, kLst_0, kTup_1, kLst_1, kTup_2, kLst_2, kTup_3, kLst_3, kTup_4, kLst_4, kTup_5, kLst_5, kTup_6, kLst_6, kTup_7, kLst_7, kApp1, kAp2a, ev_IsN, ev_IsT, ev_IsT2, kIs1, kIs2a, ev_ty1, ev_ty2, ev_ty3, ev_ty4, ev_ty5, ev_ty7, ev_ty8, ev_SlH, ev_SlL, fSl1, fSl2, fSl3, fSl4, ev_sN, atI_0, atI_1, atI_2, atI_3, atI_4, atI_5, kFor1, kFor2, fin1, fin2, fin3, fin4, ev_Ch, kCh1a, kCh2a, kCh3a, kCh4a, kCh5a, ev_I2c, ev_sq5, ev_ty6, ev_LenS, ev_Len4, ev_CatT, ev_CatL, kTup1, kLst1, kAp3a, ev_App, kAp0a, beq_self_eq_true, isL1, kSq1, kTy1, kTy2, kLe1, ev_Fl, kFl1, kFl2a, ev_SI, kSI1, kSI2a, ev_SF, kSF1, kSF2a, List.length_map, ev_All, List.getElem?_cons_zero, List.getElem?_cons_succ, List.set_cons_zero, List.set_cons_succ, Bool.not_true, Bool.not_false, isa, decide_true, decide_false, Bool.false_eq_true, if_true, if_false, setT, setNs, Option.map_some, isNon, Bool.or_true, Bool.or_false, Bool.true_or, Bool.false_or, ite_true, ite_false, ev_Lk, kLk2, ev_IsO, ev_noX, kNX1, kMe1, kMt1, kMo1, ev_Meth, ev_isIns, kII1, Option.isNone_none, Bool.and_self, pi_Week_0, pi_Week_1, pi_Room_0, pi_Room_1, pi_Room_2, pi_Room_3, pi_Person_1, pi_Person_2, pi_Lesson_1, pi_Lesson_2, pi_Lesson_3, pi_Lesson_4, pi_Lesson_5, pi_Book_0, pi_Book_1, pi_Book_2, pi_Book_3, pi_Book_4, pi_Book_5, pi_Book_6, pi_Book_7, lk_Week_days, lk_Week_periods, lk_Room_closed, lk_Room_name, lk_Person_absent, lk_Person_name, lk_Lesson_starts, lk_Lesson_people, lk_Lesson_name, lk_Book_week, lk_Book_person_named, lk_Book_lesson_named, lk_Book_lessons, ln_Week_has, ln_Book_put_lessons, ln_Book_put_rules, dl_0, dl_1, dl_2, dl_3, dl_4, dl_5, dl_6, dl_7, dm_0, dm_1, dm_2, dm_3, dm_4, dm_5, dm_6, dm_7, dm_8, dm_9, dm_10, dm_11, kio_Week, kio_Room, kio_Person, kio_Lesson, ev_Fg, ev_cl, ev_cl1, ev_W, kW1, kW2a, wf_nt, *])
/-! Q16: law_refused, law_book, law. -/
section
variable {hp hp' hp1 hp2 : List IO} {b h : Nat} {ns : List (Nat × Str)}
theorem oks_bang : PyData.strOk "!NoTimetable" = true := by decide +kernel
theorem rf_body {a r : Str} {i : Int} {rest us : List IV} {e0 e1 e3 e4 e5 e8 e9 : Option RV} {x : IV} (h1 : rest.length ≤ 100) (h2 : us.length ≤ 100) :
    d_law_refused_1 ⟨[e0, e1, some (.v (.tup (.tup [.str a, .int i, .str r] :: rest))), e3, e4, e5, some (.l us), some (.v x), e8, e9], hp⟩ =
      .ok .nx ⟨[e0, e1, some (.v (.tup (.tup [.str a, .int i, .str r] :: rest))), e3, e4, e5, some (.l (us ++ [.tup (x :: rest)])), some (.v x), e8, e9], hp⟩ := by
  have c : ∀ y : IV, cutI (y :: rest) (some 1) none = rest := fun y => cutI_L (vs := y :: rest) 1
  have k : ∀ (y : IV) (s : S), gCatT [.v (.tup [y]), .v (.tup rest)] s = .ok (.v (.tup (y :: rest))) s := fun y s => ev_CatT (vs := [y]) (us := rest) (by show 1 + rest.length ≤ 100000; omega)
  have l : us.length < 100000 := by omega
  unfold d_law_refused_1
  walk_at "py"
theorem s_refused {a r : Str} {i : Int} {ts : List T3} (H : Hand hp h) (k : Bk hp b ns) (g0 : GT (a, i, r)) (g : ∀ t ∈ ts, GT t) (hl : ts.length ≤ 20) (hn : a :: ts.map (·.1) = ns.map (·.2)) (hzoo : "zoo" ≠ a) (up : Up (ns.map (·.2))) :
    ∃ hp', f_law_refused [.v (.ref h), .v (.ref b), .v (.tup (.tup [.str a, .int i, .str r] :: ts.map tr))] hp = .ok (.v (.bl true)) hp' ∧ Hand hp' h := by
  have hlr : (ts.map tr).length ≤ 100 := by
    rw [List.length_map]
    omega
  have hh : h < hp.length := by
    obtain ⟨c, i, g, m, t, cells, h1, _⟩ := H
    exact (List.getElem?_eq_some_iff.mp h1).1
  obtain ⟨O, hO⟩ : ∃ O, O = IO.lst (.tup [.str a, .int i, .str r] :: ts.map tr) := ⟨_, rfl⟩
  have H0 : Hand (hp ++ [O]) h := by
    obtain ⟨c, i, g, m, t, cells, h1, h2, h3, h4⟩ := H
    exact ⟨c, i, g, m, t, cells, Gr.app _ _ h1, h2, Gr.app _ _ h3, h4⟩
  have k0 : Bk (hp ++ [O]) b ns := Gr.app.kp.bk H k
  have j0 : (hp ++ [O])[hp.length]? = some O := get_cc
  have jl : hp.length ≠ h := by omega
  have lo : (odds hp.length a r i (ts.map tr)).length = 13 := rfl
  obtain ⟨x, hp1, e1, hx, H1, K1, L1⟩ := s_any (vs := odds hp.length a r i (ts.map tr)) (r := .f (odds hp.length a r i (ts.map tr))) H0 (.inr rfl) (by omega) (by omega)
  have k1 : Bk hp1 b ns := K1.bk H0 k0
  have j1 := K1 _ _ jl j0
  rw [hO] at j1
  have no := odd_no k1 j1 g0 g (by omega) hn hzoo x hx
  have yes : f_check_whole [.v (.ref b), .v (.tup (.tup [.str a, .int i, .str r] :: ts.map tr))] hp1 = .ok (.v .non) hp1 := cw_ok (ts := (a, i, r) :: ts) k1 (by
    intro t ht
    rcases List.mem_cons.mp ht with rfl | ht
    · exact g0
    · exact g t ht) (by rw [List.length_cons]; omega) hn (by rw [List.map_cons]; exact (show Up (a :: ts.map (·.1)) by rw [hn]; exact up))
  refine ⟨hp1, ?_, H1⟩
  have w1 := mg_no (mg_i (B := .tup (.tup [.str a, .int i, .str r] :: ts.map tr)) (C := .tup (.tup [.str a, .int i, .str r] :: ts.map tr)) no)
  have w2 := mg_no (mg_ii (C := .tup (.tup [.str a, .int i, .str r] :: ts.map tr)) yes no)
  have w3 := mg_no (mg_iii yes yes no)
  have w4 := un_no1 (B := .tup (.tup [.str a, .int i, .str r] :: ts.map tr)) no
  have w5 := un_no2 yes no
  obtain ⟨s', e, e7, rfl⟩ : ∃ s', c_law_refused_1 ⟨[some (.v (.ref h)), some (.v (.ref b)), some (.v (.tup (.tup [.str a, .int i, .str r] :: ts.map tr))), some (.v (.str a)), some (.v (.int i)), some (.v (.str r)), some (.l ((odds hp.length a r i (ts.map tr)).take 7)), none, none, none], hp ++ [O]⟩ = .ok .nx s' ∧
      ∃ e7 : Option RV, s' = ⟨[some (.v (.ref h)), some (.v (.ref b)), some (.v (.tup (.tup [.str a, .int i, .str r] :: ts.map tr))), some (.v (.str a)), some (.v (.int i)), some (.v (.str r)), some (.l ((odds hp.length a r i (ts.map tr)).take (7 + 6))), e7, none, none], hp ++ [O]⟩ := by
    refine for_inv (s1 := ⟨[some (.v (.ref h)), some (.v (.ref b)), some (.v (.tup (.tup [.str a, .int i, .str r] :: ts.map tr))), some (.v (.str a)), some (.v (.int i)), some (.v (.str r)), some (.l ((odds hp.length a r i (ts.map tr)).take 7)), none, none, none], hp ++ [O]⟩)
      (src := srcOf true (.inr (.v (.tup [IV.tup [.str a, .int i], .tup [.str "zoo", .int i, .str r], .tup [.str a, .str "1", .str r], .tup [.str a, .int (-1), .str r], .tup [.str a, .int i, .int 3], .non]))))
      (vs := [IV.tup [.str a, .int i], .tup [.str "zoo", .int i, .str r], .tup [.str a, .str "1", .str r], .tup [.str a, .int (-1), .str r], .tup [.str a, .int i, .int 3], .non])
      (fun k s' => ∃ e7 : Option RV, s' = ⟨[some (.v (.ref h)), some (.v (.ref b)), some (.v (.tup (.tup [.str a, .int i, .str r] :: ts.map tr))), some (.v (.str a)), some (.v (.int i)), some (.v (.str r)), some (.l ((odds hp.length a r i (ts.map tr)).take (7 + k))), e7, none, none], hp ++ [O]⟩) ?_ ?_ ?_ ?_
    · refine its_ex ?_
      clear H H0 H1 K1 k k0 k1 no yes w1 w2 w3 w4 w5 hx g g0 hn up e1 j0 j1 hO
      walk_at "py"
    · exact ⟨none, rfl⟩
    · rintro k s ⟨e7, rfl⟩
      rfl
    · rintro k x s hx ⟨e7, rfl⟩
      have hk : k < 6 := (List.getElem?_eq_some_iff.mp hx).1
      refine ⟨_, _, rfl, rf_body hlr (by rw [List.length_take]; omega), some (.v x), ?_⟩
      have : (odds hp.length a r i (ts.map tr)).take (7 + (k + 1)) = (odds hp.length a r i (ts.map tr)).take (7 + k) ++ [.tup (x :: ts.map tr)] := by
        rcases (by omega : k = 0 ∨ k = 1 ∨ k = 2 ∨ k = 3 ∨ k = 4 ∨ k = 5) with rfl | rfl | rfl | rfl | rfl | rfl <;> cases hx <;> rfl
      rw [this]
  have hc1 : ∀ y : IV, cutI (y :: ts.map tr) none (some 1) = [y] := fun y => cutI_H (vs := y :: ts.map tr) 1
  have hc2 : ∀ y : IV, cutI (y :: ts.map tr) (some 1) none = ts.map tr := fun y => cutI_L (vs := y :: ts.map tr) 1
  have hcat : ∀ (y z : IV) (s : S), gCatT [.v (.tup (y :: ts.map tr)), .v (.tup [z])] s = .ok (.v (.tup ((y :: ts.map tr) ++ [z]))) s := fun y z s => ev_CatT (by rw [List.length_cons]; show (ts.map tr).length + 1 + 1 ≤ 100000; omega)
  have rp : ∀ (y : IV) (s : S), gRep [.l [y], .v (.int 5)] s = .ok (.l [y, y, y, y, y]) s := fun y s => rfl
  have fin5 : ∀ s : S, gEq false [.f [.str "!NoTimetable", .str "!NoTimetable", .str "!NoTimetable", .str "!NoTimetable", .str "!NoTimetable"], .l [.str "!NoTimetable", .str "!NoTimetable", .str "!NoTimetable", .str "!NoTimetable", .str "!NoTimetable"]] s = .ok (.v (.bl true)) s := fun s => by
    have hz : ∀ z ∈ (["!NoTimetable", "!NoTimetable", "!NoTimetable", "!NoTimetable", "!NoTimetable"] : List Str), PyData.strOk z = true := by
      intro z hz
      simp only [List.mem_cons, List.not_mem_nil, or_false, or_self] at hz
      rw [hz]
      exact oks_bang
    have := eq_strs (neg := false) (s := s) (r1 := .f [.str "!NoTimetable", .str "!NoTimetable", .str "!NoTimetable", .str "!NoTimetable", .str "!NoTimetable"]) (r2 := .l [.str "!NoTimetable", .str "!NoTimetable", .str "!NoTimetable", .str "!NoTimetable", .str "!NoTimetable"]) (xs := ["!NoTimetable", "!NoTimetable", "!NoTimetable", "!NoTimetable", "!NoTimetable"]) (ys := ["!NoTimetable", "!NoTimetable", "!NoTimetable", "!NoTimetable", "!NoTimetable"]) (by
      have := @rD_l s.hp ["!NoTimetable", "!NoTimetable", "!NoTimetable", "!NoTimetable", "!NoTimetable"]
      exact this) (by
      have := @rD_l s.hp ["!NoTimetable", "!NoTimetable", "!NoTimetable", "!NoTimetable", "!NoTimetable"]
      exact this) hz hz
    rw [this, decide_eq_true rfl]
    rfl
  have t7 : (odds hp.length a r i (ts.map tr)).take 7 = [.non, .tup [], .ref hp.length, .tup ((.tup [.str a, .int i, .str r] :: ts.map tr) ++ [.tup [.str a, .int i, .str r]]), .tup (ts.map tr), .str "rows", .tup ((.tup [.str a, .int i, .str r] :: ts.map tr) ++ [.tup [.str "zoo", .int 0, .str "big"]])] := rfl
  have t13 : (odds hp.length a r i (ts.map tr)).take (7 + 6) = odds hp.length a r i (ts.map tr) := rfl
  rw [t7, t13] at e
  generalize odds hp.length a r i (ts.map tr) = od at e e1 hx
  rw [hO] at e e1
  have l1 : ∀ e : List (Option RV), [some (RV.l [IV.str "!NoTimetable"])].length < 100000 := fun _ => Nat.le_of_ble_eq_true rfl
  have l2 : ∀ u : List IV, True := fun _ => trivial
  have k1' : ∀ (j : Nat) (v : IV) (s : S) (u1 : IV), kAp3 j v s (some (some (.l [u1]))) = .ok (.v .non) ⟨s.env.set j (some (.l [u1, v])), s.hp⟩ := fun j v s u1 => kAp3a (Nat.le_of_ble_eq_true rfl)
  have k2' : ∀ (j : Nat) (v : IV) (s : S) (u1 u2 : IV), kAp3 j v s (some (some (.l [u1, u2]))) = .ok (.v .non) ⟨s.env.set j (some (.l [u1, u2, v])), s.hp⟩ := fun j v s u1 u2 => kAp3a (Nat.le_of_ble_eq_true rfl)
  have k3' : ∀ (j : Nat) (v : IV) (s : S) (u1 u2 u3 : IV), kAp3 j v s (some (some (.l [u1, u2, u3]))) = .ok (.v .non) ⟨s.env.set j (some (.l [u1, u2, u3, v])), s.hp⟩ := fun j v s u1 u2 u3 => kAp3a (Nat.le_of_ble_eq_true rfl)
  have k4' : ∀ (j : Nat) (v : IV) (s : S) (u1 u2 u3 u4 : IV), kAp3 j v s (some (some (.l [u1, u2, u3, u4]))) = .ok (.v .non) ⟨s.env.set j (some (.l [u1, u2, u3, u4, v])), s.hp⟩ := fun j v s u1 u2 u3 u4 => kAp3a (Nat.le_of_ble_eq_true rfl)
  rw [v_law_refused, u_law_refused]
  unfold c_law_refused_2 c_law_refused_3 c_law_refused_4 c_law_refused_5 c_law_refused_6
  clear H H0 H1 K1 k k0 k1 no yes hx g g0 hn up j0 j1 hO l1 l2 t7 t13 hh jl lo hl hlr
  walk_at "py"
end

end Py

set_option Elab.async false
set_option linter.all false
set_option maxRecDepth 100000
set_option maxHeartbeats 4000000
namespace Py
open PySem PySem.Spec PyProof.Rows L2
local macro_rules | `(tactic| walk_at "py") => `(tactic| simp only [ev_C, ev_tr, ev_Nx, ev_Rd, kRd1, ev_N, kN1, kN2, kG1, ev_L0, ev_L1, kL1a, kL1b, kL2a, kL2b, ev_nm, kNm1, ev_ex, kX1, kX2, kX3, ev_T, kT1, kT2, ev_B, kB1a, ev_And, ev_Or, ev_Not, kNot1, ev_If, ev_IfS, kIf1, kIf2, kIf3, ev_Seq, kSeq1, kSeq2, kSeq3, ev_Drop, kDrop1, kDrop2, ev_Set, kSet1, kSet2, ev_Ret, kRet1, kRet2, kRet3, ev_Par, ev_pL0, ev_pL1, kPut1, ev_put1, ev_put2, ev_Asg, kAsg1, kAs2a, ev_Box, kBox1, kBox2, ev_Call, ev_gCall, kCall1, kCall2, ev_Make, ev_gMake, kMk1, ev_Raise, ev_rdL0, ev_rdL1, kC1, ev_rdl, ev_rdr, ev_rdS, kR1, kR2, kR3, kR4, ev_sq1, ev_sq2, ev_sq3, ev_sq4, ev_I2, ev_I1, ev_Abs, ev_Int, ev_At, kAt1, kV1, ev_Len1, ev_Len2, ev_Len3, ev_Tuple, kTu1, ev_List, kLi1, ev_bx0, ev_bx1, ev_bx2, kB1b, ev_bv1, ev_Tup, ev_Lst, kTup_0, kLst_0, kTup_1, kLst_1, kTup_2, kLst_2, kTup_3, kLst_3, kTup_4, kLst_4, kTup_5, kLst_5, kTup_6, kLst_6, kTup_7, kLst_7, kApp1, kAp2a, ev_IsN, ev_IsT, ev_IsT2, kIs1, kIs2a, ev_ty1, ev_ty2, ev_ty3, ev_ty4, ev_ty5, ev_ty7, ev_ty8, ev_SlH, ev_SlL, fSl1, fSl2, fSl3, fSl4, ev_sN, atI_0, atI_1, atI_2, atI_3, atI_4, atI_5, kFor1, kFor2, fin1, fin2, fin3, fin4, ev_Ch, kCh1a, kCh2a, kCh3a, kCh4a, kCh5a, ev_I2c, ev_sq5, ev_ty6, ev_LenS, ev_Len4, ev_CatT, ev_CatL, kTup1, kLst1, kAp3a, ev_App, kAp0a, beq_self_eq_true, isL1, kSq1, kTy1, kTy2, kLe1, ev_Fl, kFl1, kFl2a, ev_SI, kSI1, kSI2a, ev_SF, kSF1, kSF2a, List.length_map, ev_All, List.getElem?_cons_zero, List.getElem?_cons_succ, List.set_cons_zero, List.set_cons_succ, Bool.not_true, Bool.not_false, isa, decide_true, decide_false, Bool.false_eq_true, if_true, if_false, setT, setNs, Option.map_some, isNon, Bool.or_true, Bool.or_false, Bool.true_or, Bool.false_or, ite_true, ite_false, ev_Lk, kLk2, ev_IsO, ev_noX, kNX1, kMe1, kMt1, kMo1, ev_Meth, ev_isIns, kII1, Option.isNone_none, Bool.and_self, pi_Week_0, pi_Week_1, pi_Room_0, pi_Room_1, pi_Room_2, pi_Room_3, pi_Person_1, pi_Person_2, pi_Lesson_1, pi_Lesson_2, pi_Lesson_3, pi_Lesson_4, pi_Lesson_5, pi_Book_0, pi_Book_1, pi_Book_2, pi_Book_3, pi_Book_4, pi_Book_5, pi_Book_6, pi_Book_7, lk_Week_days, lk_Week_periods, lk_Room_closed, lk_Room_name, lk_Person_absent, lk_Person_name, lk_Lesson_starts, lk_Lesson_people, lk_Lesson_name, lk_Book_week, lk_Book_person_named, lk_Book_lesson_named, lk_Book_lessons, ln_Week_has, ln_Book_put_lessons, ln_Book_put_rules, dl_0, dl_1, dl_2, dl_3, dl_4, dl_5, dl_6, dl_7, dm_0, dm_1, dm_2, dm_3, dm_4, dm_5, dm_6, dm_7, dm_8, dm_9, dm_10, dm_11, kio_Week, kio_Room, kio_Person, kio_Lesson, ev_Fg, ev_cl, ev_cl1, ev_W, kW1, kW2a, wf_nt, *])
/-! Q17: law_book, law. -/
section
variable {hp hp' hp1 hp2 : List IO} {b h : Nat}
theorem RoomD.nmd {N : Int} {q : Str × IV} (d : RoomD N q) (n : nmB q.1 = true) : Nmd q := ⟨n, by
  obtain ⟨a, b, c, e, _⟩ := d
  exact ⟨_, e⟩⟩
theorem LessonD.nmd {N : Int} {pn : List Str} {q : Str × IV} (d : LessonD N pn q) (n : nmB q.1 = true) : Nmd q := ⟨n, by
  obtain ⟨a, b, c, e, f, g, _⟩ := d
  exact ⟨_, g⟩⟩
theorem refs_app {l : List (Nat × Str)} {q : Nat × Str} : (l.map fun q => IV.ref q.1) ++ [.ref q.1] = (l ++ [q]).map fun q => .ref q.1 := by
  rw [List.map_append]
  rfl
theorem ob_app {P : Str → IO → Prop} {l : List (Nat × Str)} {z : Str} {o : IO} (ob : Ob P hp l) (p : P z o) : Ob P (hp ++ [o]) (l ++ [(hp.length, z)]) := fun q hq => by
  rcases List.mem_append.mp hq with hq | hq
  · exact ob.gr Gr.app q hq
  · rw [List.mem_singleton.mp hq]
    exact ⟨o, get_cc, p⟩
theorem bk_rooms {plan : IV} {N : Int} {rs : List (Str × IV)} {m : Nat} {x0 x1 x3 x4 x5 : IV} {e3 : Option RV} (hpl : plan = .tup [x0, x1, .tup (rs.map (·.2)), x3, x4, x5]) (n : rs.map (·.1) = rows3.take m) (d : ∀ q ∈ rs, RoomD N q) :
    ∃ (l : List (Nat × Str)) (hp' : List IO), c_law_book_1 ⟨[some (.v plan), none, none, none, none], hp⟩ = .ok (.l (l.map fun q => .ref q.1)) ⟨[some (.v plan), none, none, none, none], hp'⟩ ∧ l.map (·.2) = rs.map (·.1) ∧ Gr hp hp' ∧ Ob (RoomP N) hp' l := by
  have hl : rs.length ≤ 3 := len_of n
  obtain ⟨acc, s', e, l, hp', rfl, l1, rfl, g, o⟩ : ∃ acc s', c_law_book_1 ⟨[some (.v plan), none, none, none, none], hp⟩ = .ok (.l acc) s' ∧
      ∃ (l : List (Nat × Str)) (hp' : List IO), acc = (l.map fun q => .ref q.1) ∧ l.map (·.2) = (rs.map (·.1)).take (rs.map (·.2)).length ∧ s' = ⟨[some (.v plan), none, none, none, none], hp'⟩ ∧ Gr hp hp' ∧ Ob (RoomP N) hp' l := by
    refine lc_inv (s1 := ⟨[some (.v plan), none, none, none, none], hp⟩) (src := srcOf true (.inr (.v (.tup (rs.map (·.2)))))) (vs := rs.map (·.2)) (fun k acc s' => ∃ (l : List (Nat × Str)) (hp' : List IO), acc = (l.map fun q => .ref q.1) ∧ l.map (·.2) = (rs.map (·.1)).take k ∧ s' = ⟨[some (.v plan), none, none, none, none], hp'⟩ ∧ Gr hp hp' ∧ Ob (RoomP N) hp' l) ?_ ?_ ?_ ?_ ?_ ?_
    · refine its_ex ?_
      rw [hpl]
      clear d hpl n
      walk_at "py"
    · exact ⟨[], hp, rfl, rfl, rfl, Gr.refl, fun q hq => absurd hq List.not_mem_nil⟩
    · rfl
    · rw [List.length_map]
      omega
    · rintro k acc s ⟨l, hp', _, _, rfl, _⟩
      rfl
    · rintro k x acc s hx ⟨l, hp', rfl, l1, rfl, g, o⟩
      rw [List.getElem?_map] at hx
      obtain ⟨q, hq, rfl⟩ := Option.map_eq_some_iff.mp hx
      have hm := List.mem_of_getElem? hq
      obtain ⟨i, ks, cl, e, i1, i2, hk, L⟩ := d q hm
      have r := s_Room (hp := hp') (nm_of n nm_rows q hm) i1 i2 hk L
      refine ⟨⟨[some (.v plan), none, none, none, some (.v q.2)], hp'⟩, rfl, .inr ⟨⟨[some (.v plan), none, none, none, some (.v q.2)], hp'⟩, ⟨[some (.v plan), none, none, none, some (.v q.2)], hp' ++ [.ins "Room" [("name", .str q.1), ("seats", .int i), ("kinds", .tup (ks.map .str)), ("closed", .tup (cl.map .int))]]⟩, .ref hp'.length, rfl, ?_, l ++ [(hp'.length, q.1)], _, refs_app (q := (hp'.length, q.1)), ?_, rfl, g.trans Gr.app, ob_app o ⟨_, _, cl, rfl, L⟩⟩⟩
      · rw [e]
        clear d hpl n hx hq hm i1 i2 hk L e g o l1
        walk_at "py"
      · rw [List.map_append, l1, List.take_succ, List.getElem?_map, hq]
        rfl
  rw [List.length_map, show rs.length = (rs.map (·.1)).length by rw [List.length_map], List.take_length] at l1
  exact ⟨l, hp', e, l1, g, o⟩
theorem bk_people {plan : IV} {N : Int} {rs : List (Str × IV)} {m : Nat} {x0 x1 x2 x4 x5 : IV} {e1 : Option RV} (hpl : plan = .tup [x0, x1, x2, .tup (rs.map (·.2)), x4, x5]) (n : rs.map (·.1) = folk3.take m) (d : ∀ q ∈ rs, PersonD N q) :
    ∃ (l : List (Nat × Str)) (hp' : List IO), c_law_book_2 ⟨[some (.v plan), e1, none, none, none], hp⟩ = .ok (.l (l.map fun q => .ref q.1)) ⟨[some (.v plan), e1, none, none, none], hp'⟩ ∧ l.map (·.2) = rs.map (·.1) ∧ Gr hp hp' ∧ Ob (PersP N) hp' l := by
  have hl : rs.length ≤ 3 := len_of n
  obtain ⟨acc, s', e, l, hp', rfl, l1, rfl, g, o⟩ : ∃ acc s', c_law_book_2 ⟨[some (.v plan), e1, none, none, none], hp⟩ = .ok (.l acc) s' ∧
      ∃ (l : List (Nat × Str)) (hp' : List IO), acc = (l.map fun q => .ref q.1) ∧ l.map (·.2) = (rs.map (·.1)).take (rs.map (·.2)).length ∧ s' = ⟨[some (.v plan), e1, none, none, none], hp'⟩ ∧ Gr hp hp' ∧ Ob (PersP N) hp' l := by
    refine lc_inv (s1 := ⟨[some (.v plan), e1, none, none, none], hp⟩) (src := srcOf true (.inr (.v (.tup (rs.map (·.2)))))) (vs := rs.map (·.2)) (fun k acc s' => ∃ (l : List (Nat × Str)) (hp' : List IO), acc = (l.map fun q => .ref q.1) ∧ l.map (·.2) = (rs.map (·.1)).take k ∧ s' = ⟨[some (.v plan), e1, none, none, none], hp'⟩ ∧ Gr hp hp' ∧ Ob (PersP N) hp' l) ?_ ?_ ?_ ?_ ?_ ?_
    · refine its_ex ?_
      rw [hpl]
      clear d hpl n
      walk_at "py"
    · exact ⟨[], hp, rfl, rfl, rfl, Gr.refl, fun q hq => absurd hq List.not_mem_nil⟩
    · rfl
    · rw [List.length_map]
      omega
    · rintro k acc s ⟨l, hp', _, _, rfl, _⟩
      rfl
    · rintro k x acc s hx ⟨l, hp', rfl, l1, rfl, g, o⟩
      rw [List.getElem?_map] at hx
      obtain ⟨q, hq, rfl⟩ := Option.map_eq_some_iff.mp hx
      have hm := List.mem_of_getElem? hq
      obtain ⟨ab, i, e, i1, i2, L⟩ := d q hm
      have r := s_Person (hp := hp') (nm_of n nm_folk q hm) i1 i2 L
      refine ⟨⟨[some (.v plan), e1, none, none, some (.v q.2)], hp'⟩, rfl, .inr ⟨⟨[some (.v plan), e1, none, none, some (.v q.2)], hp'⟩, ⟨[some (.v plan), e1, none, none, some (.v q.2)], hp' ++ [.ins "Person" [("name", .str q.1), ("absent", .tup (ab.map .int)), ("most", .int i)]]⟩, .ref hp'.length, rfl, ?_, l ++ [(hp'.length, q.1)], _, refs_app (q := (hp'.length, q.1)), ?_, rfl, g.trans Gr.app, ob_app o ⟨_, ab, rfl, L⟩⟩⟩
      · rw [e]
        clear d hpl n hx hq hm i1 i2 L e g o l1
        walk_at "py"
      · rw [List.map_append, l1, List.take_succ, List.getElem?_map, hq]
        rfl
  rw [List.length_map, show rs.length = (rs.map (·.1)).length by rw [List.length_map], List.take_length] at l1
  exact ⟨l, hp', e, l1, g, o⟩
theorem bk_lessons {plan : IV} {N : Int} {rs : List (Str × IV)} {pn : List Str} {m m2 : Nat} {x0 x1 x2 x3 x5 : IV} {e1 e2 : Option RV} (hpl : plan = .tup [x0, x1, x2, x3, .tup (rs.map (·.2)), x5]) (n : rs.map (·.1) = less4.take m) (np : pn = folk3.take m2) (d : ∀ q ∈ rs, LessonD N pn q) :
    ∃ (l : List (Nat × Str)) (hp' : List IO), c_law_book_3 ⟨[some (.v plan), e1, e2, none, none], hp⟩ = .ok (.l (l.map fun q => .ref q.1)) ⟨[some (.v plan), e1, e2, none, none], hp'⟩ ∧ l.map (·.2) = rs.map (·.1) ∧ Gr hp hp' ∧ Ob (LessP N pn) hp' l := by
  have hl : rs.length ≤ 4 := len_of n
  obtain ⟨acc, s', e, l, hp', rfl, l1, rfl, g, o⟩ : ∃ acc s', c_law_book_3 ⟨[some (.v plan), e1, e2, none, none], hp⟩ = .ok (.l acc) s' ∧
      ∃ (l : List (Nat × Str)) (hp' : List IO), acc = (l.map fun q => .ref q.1) ∧ l.map (·.2) = (rs.map (·.1)).take (rs.map (·.2)).length ∧ s' = ⟨[some (.v plan), e1, e2, none, none], hp'⟩ ∧ Gr hp hp' ∧ Ob (LessP N pn) hp' l := by
    refine lc_inv (s1 := ⟨[some (.v plan), e1, e2, none, none], hp⟩) (src := srcOf true (.inr (.v (.tup (rs.map (·.2)))))) (vs := rs.map (·.2)) (fun k acc s' => ∃ (l : List (Nat × Str)) (hp' : List IO), acc = (l.map fun q => .ref q.1) ∧ l.map (·.2) = (rs.map (·.1)).take k ∧ s' = ⟨[some (.v plan), e1, e2, none, none], hp'⟩ ∧ Gr hp hp' ∧ Ob (LessP N pn) hp' l) ?_ ?_ ?_ ?_ ?_ ?_
    · refine its_ex ?_
      rw [hpl]
      clear d hpl n np
      walk_at "py"
    · exact ⟨[], hp, rfl, rfl, rfl, Gr.refl, fun q hq => absurd hq List.not_mem_nil⟩
    · rfl
    · rw [List.length_map]
      omega
    · rintro k acc s ⟨l, hp', _, _, rfl, _⟩
      rfl
    · rintro k x acc s hx ⟨l, hp', rfl, l1, rfl, g, o⟩
      rw [List.getElem?_map] at hx
      obtain ⟨q, hq, rfl⟩ := Option.map_eq_some_iff.mp hx
      have hm := List.mem_of_getElem? hq
      obtain ⟨len, folk, i, ks, st, e, n1, n2, hf, i1, i2, hk, L⟩ := d q hm
      have f1 : folk.length ≤ 3 := by
        have h1 := hf.length_le
        rw [np, List.length_take] at h1
        have h3 : folk3.length = 3 := rfl
        omega
      have f2 : ∀ z ∈ folk, nmB z = true := fun z hz => nm_folk z (by
        have := hf.subset hz
        rw [np] at this
        exact List.mem_of_mem_take this)
      have f3 : Up folk := by
        have : Up pn := by
          rw [np]
          exact up_folk.sublist (List.take_sublist ..)
        exact this.sublist hf
      have r := s_Lesson (hp := hp') (nm_of n nm_less q hm) n1 n2 i1 i2 hk L (by omega) f2 f3
      refine ⟨⟨[some (.v plan), e1, e2, none, some (.v q.2)], hp'⟩, rfl, .inr ⟨⟨[some (.v plan), e1, e2, none, some (.v q.2)], hp'⟩, ⟨[some (.v plan), e1, e2, none, some (.v q.2)], hp' ++ [.ins "Lesson" [("name", .str q.1), ("length", .int len), ("people", .tup (folk.map .str)), ("seats", .int i), ("kinds", .tup (ks.map .str)), ("starts", .tup (st.map .int))]]⟩, .ref hp'.length, rfl, ?_, l ++ [(hp'.length, q.1)], _, refs_app (q := (hp'.length, q.1)), ?_, rfl, g.trans Gr.app, ob_app o ⟨_, _, _, folk, st, rfl, L, by omega, fun z hz => hf.subset hz⟩⟩⟩
      · rw [e]
        clear d hpl n np hx hq hm i1 i2 hk L e g o l1 n1 n2 hf f1 f2 f3
        walk_at "py"
      · rw [List.map_append, l1, List.take_succ, List.getElem?_map, hq]
        rfl
  rw [List.length_map, show rs.length = (rs.map (·.1)).length by rw [List.length_map], List.take_length] at l1
  exact ⟨l, hp', e, l1, g, o⟩
theorem s_book {x : IV} {d p : Int} {rs ps ls : List (Str × IV)} {R : List IV} (P : PlanOk x d p rs ps ls R) :
    ∃ (b : Nat) (hp' : List IO) (l : List (Nat × Str)), f_law_book [.v x] hp = .ok (.v (.ref b)) hp' ∧ Bk hp' b l ∧ l.map (·.2) = ls.map (·.1) ∧ Gr hp hp' := by
  obtain ⟨m1, rn⟩ := P.rn
  obtain ⟨m2, pn⟩ := P.pn
  obtain ⟨m3, ln⟩ := P.ln
  have hdp := dp_b P.d1 P.d2 P.p1 P.p2
  have cm : cMul d p = true := cM_r (by
    have := P.p1
    have := P.p2
    simp only [Bool.and_eq_true, decide_eq_true_eq]
    omega)
  obtain ⟨lr, hp1, f1, r1, g1, o1⟩ := bk_rooms (hp := hp) (e3 := none) P.e rn P.rd
  obtain ⟨lp, hp2, f2, r2, g2, o2⟩ := bk_people (hp := hp1) (e1 := some (.v (rfs lr))) P.e pn P.pd
  obtain ⟨ll, hp3, f3, r3, g3, o3⟩ := bk_lessons (hp := hp2) (e1 := some (.v (rfs lr))) (e2 := some (.v (rfs lp))) P.e ln pn P.ld
  have wk := s_Week (hp := hp3) (d := d) (p := p) P.d1 (by have := P.d2; omega) (by have := P.p1; omega) (by have := P.p2; omega)
  have hl3 : ls.length ≤ 4 := len_of ln
  have n3 : ll.length = ls.length := by
    have := congrArg List.length r3
    rwa [List.length_map, List.length_map] at this
  have n1 : lr.length ≤ 3 := by
    have := congrArg List.length r1
    rw [List.length_map, List.length_map] at this
    have := len_of rn
    have h3 : rows3.length = 3 := rfl
    omega
  have n2 : lp.length ≤ 3 := by
    have := congrArg List.length r2
    rw [List.length_map, List.length_map] at this
    have := len_of pn
    have h3 : folk3.length = 3 := rfl
    omega
  have gX : Gr hp3 ((hp3 ++ [wkO d p]) ++ [.ins "Book" []]) := Gr.app.trans Gr.app
  obtain ⟨hp4, fs, f4, k4, b4, lk⟩ := s_Book (hX := (hp3 ++ [wkO d p]) ++ [.ins "Book" []]) (n := (hp3 ++ [wkO d p]).length) (w := hp3.length) (d := d) (p := p) (rs := lr) (ps := lp) (ls := ll) (R := R) get_cc (Gr.app _ _ get_cc) cm
    (o1.gr (g2.trans (g3.trans gX))) (o2.gr (g3.trans gX)) (by rw [r2]; exact o3.gr gX) (by rw [r1, rn]; exact up_rows.sublist (List.take_sublist ..)) (by rw [r2, pn]; exact up_folk.sublist (List.take_sublist ..)) (by rw [r3, ln]; exact up_less.sublist (List.take_sublist ..))
    (by omega) (by omega) (by omega) (by
      intro z hz
      rw [r3, ln] at hz
      exact nm_less z (List.mem_of_mem_take hz)) (by rw [r3]; exact P.ru) (by have := P.rl; omega)
  have hlt : ∀ (j : Nat) (o : IO), hp3[j]? = some o → hp4[j]? = some o := fun j o e => k4 j o (by
    have := (List.getElem?_eq_some_iff.mp e).1
    rw [List.length_append]
    show j ≠ hp3.length + 1
    omega) (gX j o e)
  refine ⟨(hp3 ++ [wkO d p]).length, hp4, ll, ?_, ⟨by omega, fun q hq => ?_, ⟨fs, b4, lk⟩, fun q hq => ?_⟩, r3, fun j o e => hlt j o (g3 j o (g2 j o (g1 j o e)))⟩
  · rw [v_law_book, u_law_book]
    rw [P.e] at f1 f2 f3 ⊢
    clear P rn pn ln hdp cm r1 r2 r3 g1 g2 g3 o1 o2 o3 n1 n2 n3 gX k4 b4 lk hlt hl3
    walk_at "py"
  · have : q.2 ∈ ls.map (·.1) := by
      rw [← r3]
      exact List.mem_map_of_mem hq
    rw [ln] at this
    exact (nm_len (nm_less _ (List.mem_of_mem_take this))).2.2.2
  · obtain ⟨fs', h1, h2⟩ := o3.less q hq
    exact ⟨fs', hlt _ _ h1, h2⟩
end

end Py

set_option Elab.async false
set_option linter.all false
set_option maxRecDepth 100000
set_option maxHeartbeats 4000000
namespace Py
open PySem PySem.Spec PyProof.Rows L2
local macro_rules | `(tactic| walk_at "py") => `(tactic| simp only [ev_C, ev_tr, ev_Nx, ev_Rd, kRd1, ev_N, kN1, kN2, kG1, ev_L0, ev_L1, kL1a, kL1b, kL2a, kL2b, ev_nm, kNm1, ev_ex, kX1, kX2, kX3, ev_T, kT1, kT2, ev_B, kB1a, ev_And, ev_Or, ev_Not, kNot1, ev_If, ev_IfS, kIf1, kIf2, kIf3, ev_Seq, kSeq1, kSeq2, kSeq3, ev_Drop, kDrop1, kDrop2, ev_Set, kSet1, kSet2, ev_Ret, kRet1, kRet2, kRet3, ev_Par, ev_pL0, ev_pL1, kPut1, ev_put1, ev_put2, ev_Asg, kAsg1, kAs2a, ev_Box, kBox1, kBox2, ev_Call, ev_gCall, kCall1, kCall2, ev_Make, ev_gMake, kMk1, ev_Raise, ev_rdL0, ev_rdL1, kC1, ev_rdl, ev_rdr, ev_rdS, kR1, kR2, kR3, kR4, ev_sq1, ev_sq2, ev_sq3, ev_sq4, ev_I2, ev_I1, ev_Abs, ev_Int, ev_At, kAt1, kV1, ev_Len1, ev_Len2, ev_Len3, ev_Tuple, kTu1, ev_List, kLi1, ev_bx0, ev_bx1, ev_bx2, kB1b, ev_bv1, ev_Tup, ev_Lst, kTup_0, kLst_0, kTup_1, kLst_1, kTup_2, kLst_2, kTup_3, kLst_3, kTup_4, kLst_4, kTup_5, kLst_5, kTup_6, kLst_6, kTup_7, kLst_7, kApp1, kAp2a, ev_IsN, ev_IsT, ev_IsT2, kIs1, kIs2a, ev_ty1, ev_ty2, ev_ty3, ev_ty4, ev_ty5, ev_ty7, ev_ty8, ev_SlH, ev_SlL, fSl1, fSl2, fSl3, fSl4, ev_sN, atI_0, atI_1, atI_2, atI_3, atI_4, atI_5, kFor1, kFor2, fin1, fin2, fin3, fin4, ev_Ch, kCh1a, kCh2a, kCh3a, kCh4a, kCh5a, ev_I2c, ev_sq5, ev_ty6, ev_LenS, ev_Len4, ev_CatT, ev_CatL, kTup1, kLst1, kAp3a, ev_App, kAp0a, beq_self_eq_true, isL1, kSq1, kTy1, kTy2, kLe1, ev_Fl, kFl1, kFl2a, ev_SI, kSI1, kSI2a, ev_SF, kSF1, kSF2a, List.length_map, ev_All, List.getElem?_cons_zero, List.getElem?_cons_succ, List.set_cons_zero, List.set_cons_succ, Bool.not_true, Bool.not_false, isa, decide_true, decide_false, Bool.false_eq_true, if_true, if_false, setT, setNs, Option.map_some, isNon, Bool.or_true, Bool.or_false, Bool.true_or, Bool.false_or, ite_true, ite_false, ev_Lk, kLk2, ev_IsO, ev_noX, kNX1, kMe1, kMt1, kMo1, ev_Meth, ev_isIns, kII1, Option.isNone_none, Bool.and_self, pi_Week_0, pi_Week_1, pi_Room_0, pi_Room_1, pi_Room_2, pi_Room_3, pi_Person_1, pi_Person_2, pi_Lesson_1, pi_Lesson_2, pi_Lesson_3, pi_Lesson_4, pi_Lesson_5, pi_Book_0, pi_Book_1, pi_Book_2, pi_Book_3, pi_Book_4, pi_Book_5, pi_Book_6, pi_Book_7, lk_Week_days, lk_Week_periods, lk_Room_closed, lk_Room_name, lk_Person_absent, lk_Person_name, lk_Lesson_starts, lk_Lesson_people, lk_Lesson_name, lk_Book_week, lk_Book_person_named, lk_Book_lesson_named, lk_Book_lessons, ln_Week_has, ln_Book_put_lessons, ln_Book_put_rules, dl_0, dl_1, dl_2, dl_3, dl_4, dl_5, dl_6, dl_7, dm_0, dm_1, dm_2, dm_3, dm_4, dm_5, dm_6, dm_7, dm_8, dm_9, dm_10, dm_11, kio_Week, kio_Room, kio_Person, kio_Lesson, ev_Fg, ev_cl, ev_cl1, ev_W, kW1, kW2a, wf_nt, *])
/-! Q18: law. -/
section
variable {hp hp' hp1 hp2 : List IO} {b h : Nat}
theorem Hand.gr (H : Hand hp h) (g : Gr hp hp') : Hand hp' h := by
  obtain ⟨c, i, g', m, t, cells, h1, h2, h3, h4⟩ := H
  exact ⟨c, i, g', m, t, cells, g _ _ h1, h2, g _ _ h3, h4⟩
theorem zip3 : ∀ {A B C : List T3}, A.length = B.length → B.length = C.length → ∃ l : List (T3 × T3 × T3), A = l.map (fun x => x.1) ∧ B = l.map (fun x => x.2.1) ∧ C = l.map (fun x => x.2.2)
  | [], [], [], _, _ => ⟨[], rfl, rfl, rfl⟩
  | a :: A, b :: B, c :: C, h1, h2 => by
    obtain ⟨l, e1, e2, e3⟩ := zip3 (A := A) (B := B) (C := C) (by simpa using h1) (by simpa using h2)
    exact ⟨(a, b, c) :: l, by rw [List.map_cons, ← e1], by rw [List.map_cons, ← e2], by rw [List.map_cons, ← e3]⟩
  | [], _ :: _, _, h, _ => nomatch h
  | _ :: _, [], _, h, _ => nomatch h
  | [], [], _ :: _, _, h => nomatch h
  | _ :: _, _ :: _, [], _, h => nomatch h
theorem zoo_less : ∀ z ∈ less4, ("zoo" : Str) ≠ z := by decide +kernel
theorem law_turn {e0 e2 e3 e4 e5 e6 e7 : Option RV} (H : Hand hp 1) :
    ∃ (hp' : List IO) (a3 a4 a5 a6 a7 : Option RV), d_law_1 ⟨[e0, some (.v (.ref 1)), e2, e3, e4, e5, e6, e7], hp⟩ = .ok .nx ⟨[e0, some (.v (.ref 1)), e2, a3, a4, a5, a6, a7], hp'⟩ ∧ Hand hp' 1 := by
  obtain ⟨x, d, p, rs, ps, ls, R, hp1, f1, P, H1, K1, L1⟩ := s_drawn H
  obtain ⟨b, hp2, l, f2, B2, hl, g2⟩ := s_book (hp := hp1) P
  have H2 := H1.gr g2
  obtain ⟨m1, rn⟩ := P.rn
  obtain ⟨m3, ln⟩ := P.ln
  have hdp := dp_b P.d1 P.d2 P.p1 P.p2
  have cm : cMul d p = true := cM_r (by
    have := P.p1
    have := P.p2
    simp only [Bool.and_eq_true, decide_eq_true_eq]
    omega)
  have nr : ∀ q ∈ rs, Nmd q := fun q hq => (P.rd q hq).nmd (nm_of rn nm_rows q hq)
  have nl : ∀ q ∈ ls, Nmd q := fun q hq => (P.ld q hq).nmd (nm_of ln nm_less q hq)
  have lr : rs.length ≤ 3 := len_of rn
  have ll : ls.length ≤ 4 := len_of ln
  have up : Up (l.map (·.2)) := by
    rw [hl, ln]
    exact up_less.sublist (List.take_sublist ..)
  have row := fun (hpX : List IO) (HX : Hand hpX 1) (base : IV) (hb : RowB (ls.map (·.1)) base) => s_row (pl := .tup (ps.map (·.2))) (pm := .tup R) (base := base) HX (by omega) (by omega) cm nr nl (by omega) (by omega) hb
  obtain ⟨A, hp3, f3, nA, gA, H3, K3, L3⟩ := row hp2 H2 .non (.inl rfl)
  obtain ⟨B, hp4, f4, nB, gB, H4, K4, L4⟩ := row hp3 H3 (.tup (A.map tr)) (.inr ⟨A, rfl, nA, gA⟩)
  obtain ⟨C, hp5, f5, nC, gC, H5, K5, L5⟩ := row hp4 H4 (.tup (A.map tr)) (.inr ⟨A, rfl, nA, gA⟩)
  have B5 : Bk hp5 b l := K5.bk H4 (K4.bk H3 (K3.bk H2 B2))
  have lA : A.length = ls.length := by
    have := congrArg List.length nA
    rwa [List.length_map, List.length_map] at this
  have lB : B.length = ls.length := by
    have := congrArg List.length nB
    rwa [List.length_map, List.length_map] at this
  have lC : C.length = ls.length := by
    have := congrArg List.length nC
    rwa [List.length_map, List.length_map] at this
  obtain ⟨z, hA, hB, hC⟩ := zip3 (lA.trans lB.symm) (lB.trans lC.symm)
  have lz : z.length ≤ 20 := by
    have := congrArg List.length hA
    rw [List.length_map] at this
    omega
  have mA : ∀ x ∈ z, GT x.1 := fun x hx => gA _ (hA ▸ List.mem_map_of_mem hx)
  have mB : ∀ x ∈ z, GT x.2.1 := fun x hx => gB _ (hB ▸ List.mem_map_of_mem hx)
  have mC : ∀ x ∈ z, GT x.2.2 := fun x hx => gC _ (hC ▸ List.mem_map_of_mem hx)
  have qA : (z.map fun x => x.1.1) = l.map (·.2) := by
    rw [hl, ← nA, hA, List.map_map]
    rfl
  have qB : (z.map fun x => x.2.1.1) = l.map (·.2) := by
    rw [hl, ← nB, hB, List.map_map]
    rfl
  have qC : (z.map fun x => x.2.2.1) = l.map (·.2) := by
    rw [hl, ← nC, hC, List.map_map]
    rfl
  have t1 := s_three (l := z) (p := fun x => x.1) (q := fun x => x.2.1) (r := fun x => x.2.2) B5 lz mA mB mC qA qB qC up
  have t2 := s_three (l := z) (p := fun x => x.2.1) (q := fun x => x.1) (r := fun x => x.2.2) B5 lz mB mA mC qB qA qC up
  have wA : rw3 z (fun x => x.1) = .tup (A.map tr) := by
    rw [hA, List.map_map]
    rfl
  have wB : rw3 z (fun x => x.2.1) = .tup (B.map tr) := by
    rw [hB, List.map_map]
    rfl
  have wC : rw3 z (fun x => x.2.2) = .tup (C.map tr) := by
    rw [hC, List.map_map]
    rfl
  rw [wA, wB, wC] at t1 t2
  have ll0 : 0 < ls.length := by
    have := congrArg List.length ln
    rw [List.length_map, List.length_take] at this
    have h4 : less4.length = 4 := rfl
    omega
  obtain ⟨t, A', rfl⟩ : ∃ t A', A = t :: A' := by
    cases A with
    | nil => 
      rw [List.length_nil] at lA
      omega
    | cons t A' => exact ⟨t, A', rfl⟩
  obtain ⟨a, i, r⟩ := t
  obtain ⟨hp6, f6, H6⟩ := s_refused (b := b) (ns := l) (ts := A') H5 B5 (gA _ (List.mem_cons_self ..)) (fun t ht => gA t (List.mem_cons_of_mem _ ht)) (by rw [List.length_cons] at lA; omega) (by rw [hl]; exact nA) (zoo_less a (by
    have : a ∈ ls.map (·.1) := by
      rw [← nA, List.map_cons]
      exact List.mem_cons_self ..
    rw [ln] at this
    exact List.mem_of_mem_take this)) up
  have f6' : f_law_refused [.v (.ref 1), .v (.ref b), .v (.tup (((a, i, r) :: A').map tr))] hp5 = .ok (.v (.bl true)) hp6 := f6
  refine ⟨hp6, some (.v x), some (.v (.ref b)), some (.v (.tup (((a, i, r) :: A').map tr))), some (.v (.tup (B.map tr))), some (.v (.tup (C.map tr))), ?_, H6⟩
  rw [← P.e] at f3 f4 f5
  unfold d_law_1
  clear P H H1 H2 H3 H4 H5 H6 K1 K3 K4 K5 B2 B5 row nr nl up rn ln hdp cm gA gB gC nA nB nC mA mB mC qA qB qC wA wB wC hA hB hC lz lA lB lC g2 hl f6
  walk_at "py"
theorem s_law {is : List Int} {r : RV} (hr : r = .z (is.map .int) ∨ r = .f (is.map .int)) (hl : is.length ≤ 1000) : ∃ hp', f_law [r] [] = .ok (.v (.bl true)) hp' := by
  obtain ⟨ms, m, f1⟩ := s_hand (hp := []) hr hl
  have H : Hand ([IO.lst (ms.map .int)] ++ [IO.lst [.ref 0, .int 0, .int 0, .int m, .int 0]]) 1 := ⟨0, 0, 0, m, 0, ms, rfl, Nat.zero_ne_one, rfl, Int.le_refl _, Int.le_refl _⟩
  obtain ⟨s', e, hp', a2, a3, a4, a5, a6, a7, rfl, H'⟩ : ∃ s', c_law_1 ⟨[some r, some (.v (.ref 1)), none, none, none, none, none, none], [IO.lst (ms.map .int)] ++ [IO.lst [.ref 0, .int 0, .int 0, .int m, .int 0]]⟩ = .ok .nx s' ∧
      ∃ (hp' : List IO) (a2 a3 a4 a5 a6 a7 : Option RV), s' = ⟨[some r, some (.v (.ref 1)), a2, a3, a4, a5, a6, a7], hp'⟩ ∧ Hand hp' 1 := by
    refine for_inv (s1 := ⟨[some r, some (.v (.ref 1)), none, none, none, none, none, none], [IO.lst (ms.map .int)] ++ [IO.lst [.ref 0, .int 0, .int 0, .int m, .int 0]]⟩) (src := fun _ => some (rngI 0 5)) (vs := rngI 0 5)
      (fun k s' => ∃ (hp' : List IO) (a2 a3 a4 a5 a6 a7 : Option RV), s' = ⟨[some r, some (.v (.ref 1)), a2, a3, a4, a5, a6, a7], hp'⟩ ∧ Hand hp' 1) rfl ⟨_, none, none, none, none, none, none, rfl, H⟩ (fun _ _ _ => rfl) ?_
    rintro k x s hx ⟨hp', a2, a3, a4, a5, a6, a7, rfl, H'⟩
    obtain ⟨hp2, b3, b4, b5, b6, b7, f, H2⟩ := law_turn (e0 := some r) (e2 := some (.v x)) (e3 := a3) (e4 := a4) (e5 := a5) (e6 := a6) (e7 := a7) H'
    exact ⟨_, _, rfl, f, hp2, _, b3, b4, b5, b6, b7, rfl, H2⟩
  refine ⟨hp', ?_⟩
  rw [v_law, u_law]
  have e1 : f_law_hand [r] [] = .ok (.l [.ref 0, .int 0, .int 0, .int m, .int 0]) [IO.lst (ms.map .int)] := f1
  have l1 : ([IO.lst (ms.map .int)] : List IO).length = 1 := rfl
  rcases hr with rfl | rfl
  · clear H f1
    walk_at "py"
  · clear H f1
    walk_at "py"
end

end Py

set_option Elab.async false
set_option linter.all false
set_option maxRecDepth 100000
set_option maxHeartbeats 0
/-! H39: the head: facts by names, the run, what it tells (printed by mkhead39.py). -/
namespace Py
open PySem PySem.Spec PyProof.Rows L2
def insB (K : PySem.W.Frag) (C : Addr) : Bool := He.eqO (PySem.W.findIn K (.ref C) "__class__") (some (some (.builtin "object.__class__"))) && (He.eqO (PySem.W.specialIn K (.builtin "object.__class__") "__get__") (some (some (.builtin "getset_descriptor.__get__"))) &&
  (decide (PySem.W.takesIn K (.builtin "object.__class__") = some true) && decide (PySem.W.mroIn K C (.type "object") = some true)))
theorem ins_of {K : PySem.W.Frag} {C : Addr} (c : Cls K C) (h : insB K C = true) : InsF K C := by
  obtain ⟨h1, h⟩ := He.ba h
  obtain ⟨h2, h⟩ := He.ba h
  obtain ⟨h3, h4⟩ := He.ba h
  exact ⟨c, He.eqO_ok h1, He.eqO_ok h2, of_decide_eq_true h3, of_decide_eq_true h4⟩
def ktB (K : PySem.W.Frag) (C : Addr) : Bool := [Ty0.non, .bool, .int, .str, .tuple, .list, .dict].all fun t => decide (PySem.W.kitOne K (.type t.nm) (.ref C) = some false)
theorem ktB_ok {K : PySem.W.Frag} {C : Addr} (h : ktB K C = true) (t : Ty0) : PySem.W.kitOne K (.type t.nm) (.ref C) = some false := by
  have := List.all_eq_true.mp h t (by cases t <;> decide)
  exact of_decide_eq_true this
def excB (K : PySem.W.Frag) (D : Addr) : Bool := He.eqO (PySem.W.findIn K (.ref D) "__getattribute__") (some (some (.builtin "BaseException.__getattribute__"))) && (He.eqO (PySem.W.findIn K (.ref D) "__getattr__") (some none) &&
  (decide (PySem.W.subIn K (.ref D) (.type "BaseException") = some true) && (PySem.W.hasDictIn K D && insB K D)))
theorem excB_ok {K : PySem.W.Frag} {D : Addr} (h : excB K D = true) : ExcC K D := by
  obtain ⟨h1, h⟩ := He.ba h
  obtain ⟨h2, h⟩ := He.ba h
  obtain ⟨h3, h⟩ := He.ba h
  obtain ⟨h4, h⟩ := He.ba h
  obtain ⟨h5, h⟩ := He.ba h
  obtain ⟨h6, h⟩ := He.ba h
  obtain ⟨h7, h8⟩ := He.ba h
  exact ⟨He.eqO_ok h1, He.eqO_ok h2, of_decide_eq_true h3, h4, He.eqO_ok h5, He.eqO_ok h6, of_decide_eq_true h7, of_decide_eq_true h8⟩
def xobB (K : PySem.W.Frag) (C : Addr) : Bool := match K.lookup C with
  | some ⟨.type "type", _, .cls cd, sl⟩ => (match cd.mro, sl.toList with
    | .ref C' :: bm, [_, _, _, _, some (.builtin n), _] => decide (C' = C) && (decide (n = "ValueError.__new__") && (!cd.hasDel && (cd.hasDict && PySem.HandSPX.refsVE bm)))
    | _, _ => false)
  | _ => false
theorem xobB_ok {K : PySem.W.Frag} {C : Addr} (h : xobB K C = true) : ∃ nm q N bs bm sn sub ab col dd k0 k1 k2 k3 k5, K.lookup C = some (excClassObj nm q C N bs bm true sn sub ab col dd k0 k1 k2 k3 k5 "ValueError.__new__") ∧ PySem.HandSPX.refsVE bm = true := by
  unfold xobB at h
  split at h
  · rename_i dd cd sl ho
    split at h
    · rename_i C' bm k0 k1 k2 k3 n k5 hm hs
      obtain ⟨h1, h⟩ := He.ba h
      obtain ⟨h2, h⟩ := He.ba h
      obtain ⟨h3, h⟩ := He.ba h
      obtain ⟨h4, h5⟩ := He.ba h
      have e1 : C' = C := of_decide_eq_true h1
      have e2 : n = "ValueError.__new__" := of_decide_eq_true h2
      subst e1 e2
      obtain ⟨nm, bs, mro, ns, qn, hd, sn, sub, ab, col, del⟩ := cd
      dsimp only at hm h3 h4
      have hdel : del = false := by simpa using h3
      subst hm hdel h4
      have hsl : sl = #[k0, k1, k2, k3, some (.builtin "ValueError.__new__"), k5] := by
        obtain ⟨l⟩ := sl
        simp only at hs
        rw [hs]
      subst hsl
      exact ⟨nm, qn, ns, bs, bm, sn, sub, ab, col, dd, k0, k1, k2, k3, k5, ho, h5⟩
    · cases h
  · cases h
def oexB (K : PySem.W.Frag) (C : Addr) : Bool := xobB K C && (He.eqO (PySem.W.findIn K (.ref C) "__setattr__") (some (some (.builtin "object.__setattr__"))) && (decide (PySem.W.subIn K (.ref C) (.type "BaseException") = some true) &&
  (decide (PySem.W.typeIn K (.ref C) = some (.type "type")) && PySem.W.keepIn K (.ref C))))
theorem oexB_ok {K : PySem.W.Frag} {C : Addr} (h : oexB K C = true) : OexC K C := by
  obtain ⟨h1, h⟩ := He.ba h
  obtain ⟨h2, h⟩ := He.ba h
  obtain ⟨h3, h⟩ := He.ba h
  obtain ⟨h4, h5⟩ := He.ba h
  exact ⟨xobB_ok h1, He.eqO_ok h2, of_decide_eq_true h3, of_decide_eq_true h4, h5⟩
def vvB (K : PySem.W.Frag) : Bool := match PySem.W.findCls K (.type "ValueError") (.type "type") "__init__" with
  | some (.val v) => decide (v = .builtin "ValueError.__init__")
  | _ => false
theorem vvB_ok {K : PySem.W.Frag} (h : vvB K = true) : PySem.W.findCls K (.type "ValueError") (.type "type") "__init__" = some (.val (.builtin "ValueError.__init__")) := by
  unfold vvB at h
  split at h
  · rename_i v e
    rw [e, of_decide_eq_true h]
  · cases h
def d0 : He.DefD := ⟨("_wall", none), "_wall", "_wall", defArgs (top 0), defBody (top 0), defScope (top 0), [], []⟩
def d1 : He.DefD := ⟨("HourError", some "__init__"), "__init__", "HourError.__init__", defArgs (inClass (top 2) 0), defBody (inClass (top 2) 0), defScope (inClass (top 2) 0), [], []⟩
def d2 : He.DefD := ⟨("BadWeek", some "__init__"), "__init__", "BadWeek.__init__", defArgs (inClass (top 3) 0), defBody (inClass (top 3) 0), defScope (inClass (top 3) 0), [], []⟩
def d3 : He.DefD := ⟨("BadRoom", some "__init__"), "__init__", "BadRoom.__init__", defArgs (inClass (top 4) 0), defBody (inClass (top 4) 0), defScope (inClass (top 4) 0), [], []⟩
def d4 : He.DefD := ⟨("BadPerson", some "__init__"), "__init__", "BadPerson.__init__", defArgs (inClass (top 5) 0), defBody (inClass (top 5) 0), defScope (inClass (top 5) 0), [], []⟩
def d5 : He.DefD := ⟨("BadLesson", some "__init__"), "__init__", "BadLesson.__init__", defArgs (inClass (top 6) 0), defBody (inClass (top 6) 0), defScope (inClass (top 6) 0), [], []⟩
def d6 : He.DefD := ⟨("BadBook", some "__init__"), "__init__", "BadBook.__init__", defArgs (inClass (top 7) 0), defBody (inClass (top 7) 0), defScope (inClass (top 7) 0), [], []⟩
def d7 : He.DefD := ⟨("is_integer", none), "is_integer", "is_integer", defArgs (top 13), defBody (top 13), defScope (top 13), [], []⟩
def d8 : He.DefD := ⟨("is_between", none), "is_between", "is_between", defArgs (top 14), defBody (top 14), defScope (top 14), [], []⟩
def d9 : He.DefD := ⟨("is_number", none), "is_number", "is_number", defArgs (top 15), defBody (top 15), defScope (top 15), [], []⟩
def d10 : He.DefD := ⟨("is_name", none), "is_name", "is_name", defArgs (top 16), defBody (top 16), defScope (top 16), [], []⟩
def d11 : He.DefD := ⟨("is_ascending", none), "is_ascending", "is_ascending", defArgs (top 17), defBody (top 17), defScope (top 17), [], []⟩
def d12 : He.DefD := ⟨("is_names", none), "is_names", "is_names", defArgs (top 18), defBody (top 18), defScope (top 18), [], []⟩
def d13 : He.DefD := ⟨("is_numbers", none), "is_numbers", "is_numbers", defArgs (top 19), defBody (top 19), defScope (top 19), [], []⟩
def d14 : He.DefD := ⟨("Week", some "__init__"), "__init__", "Week.__init__", defArgs (inClass (top 20) 0), defBody (inClass (top 20) 0), defScope (inClass (top 20) 0), [], []⟩
def d15 : He.DefD := ⟨("Week", some "__eq__"), "__eq__", "Week.__eq__", defArgs (inClass (top 20) 1), defBody (inClass (top 20) 1), defScope (inClass (top 20) 1), [], []⟩
def d16 : He.DefD := ⟨("Week", some "has"), "has", "Week.has", defArgs (inClass (top 20) 2), defBody (inClass (top 20) 2), defScope (inClass (top 20) 2), [], []⟩
def d17 : He.DefD := ⟨("is_slots", none), "is_slots", "is_slots", defArgs (top 21), defBody (top 21), defScope (top 21), [], []⟩
def d18 : He.DefD := ⟨("is_laid", none), "is_laid", "is_laid", defArgs (top 23), defBody (top 23), defScope (top 23), [], []⟩
def d19 : He.DefD := ⟨("is_timetable", none), "is_timetable", "is_timetable", defArgs (top 24), defBody (top 24), defScope (top 24), [], []⟩
def d20 : He.DefD := ⟨("check_whole", none), "check_whole", "check_whole", defArgs (top 26), defBody (top 26), defScope (top 26), [], []⟩
def d21 : He.DefD := ⟨("gone_to", none), "gone_to", "gone_to", defArgs (top 27), defBody (top 27), defScope (top 27), [], []⟩
def d22 : He.DefD := ⟨("merged", none), "merged", "merged", defArgs (top 28), defBody (top 28), defScope (top 28), [], []⟩
def d23 : He.DefD := ⟨("unlike_in", none), "unlike_in", "unlike_in", defArgs (top 29), defBody (top 29), defScope (top 29), [], []⟩
def d24 : He.DefD := ⟨("Room", some "__init__"), "__init__", "Room.__init__", defArgs (inClass (top 42) 0), defBody (inClass (top 42) 0), defScope (inClass (top 42) 0), [], []⟩
def d25 : He.DefD := ⟨("Room", some "parts"), "parts", "Room.parts", defArgs (inClass (top 42) 1), defBody (inClass (top 42) 1), defScope (inClass (top 42) 1), [], []⟩
def d26 : He.DefD := ⟨("Room", some "__eq__"), "__eq__", "Room.__eq__", defArgs (inClass (top 42) 2), defBody (inClass (top 42) 2), defScope (inClass (top 42) 2), [], []⟩
def d27 : He.DefD := ⟨("Person", some "__init__"), "__init__", "Person.__init__", defArgs (inClass (top 43) 0), defBody (inClass (top 43) 0), defScope (inClass (top 43) 0), [], []⟩
def d28 : He.DefD := ⟨("Person", some "parts"), "parts", "Person.parts", defArgs (inClass (top 43) 1), defBody (inClass (top 43) 1), defScope (inClass (top 43) 1), [], []⟩
def d29 : He.DefD := ⟨("Person", some "__eq__"), "__eq__", "Person.__eq__", defArgs (inClass (top 43) 2), defBody (inClass (top 43) 2), defScope (inClass (top 43) 2), [], []⟩
def d30 : He.DefD := ⟨("Lesson", some "__init__"), "__init__", "Lesson.__init__", defArgs (inClass (top 44) 0), defBody (inClass (top 44) 0), defScope (inClass (top 44) 0), [], []⟩
def d31 : He.DefD := ⟨("Lesson", some "parts"), "parts", "Lesson.parts", defArgs (inClass (top 44) 1), defBody (inClass (top 44) 1), defScope (inClass (top 44) 1), [], []⟩
def d32 : He.DefD := ⟨("Lesson", some "__eq__"), "__eq__", "Lesson.__eq__", defArgs (inClass (top 44) 2), defBody (inClass (top 44) 2), defScope (inClass (top 44) 2), [], []⟩
def d33 : He.DefD := ⟨("Lesson", some "with_people"), "with_people", "Lesson.with_people", defArgs (inClass (top 44) 3), defBody (inClass (top 44) 3), defScope (inClass (top 44) 3), [], []⟩
def d34 : He.DefD := ⟨("is_rule", none), "is_rule", "is_rule", defArgs (top 45), defBody (top 45), defScope (top 45), [], []⟩
def d35 : He.DefD := ⟨("names_of", none), "names_of", "names_of", defArgs (top 46), defBody (top 46), defScope (top 46), [], []⟩
def d36 : He.DefD := ⟨("is_behind", none), "is_behind", "is_behind", defArgs (top 47), defBody (top 47), defScope (top 47), [], []⟩
def d37 : He.DefD := ⟨("Book", some "__init__"), "__init__", "Book.__init__", defArgs (inClass (top 48) 0), defBody (inClass (top 48) 0), defScope (inClass (top 48) 0), [], []⟩
def d38 : He.DefD := ⟨("Book", some "put_lessons"), "put_lessons", "Book.put_lessons", defArgs (inClass (top 48) 1), defBody (inClass (top 48) 1), defScope (inClass (top 48) 1), [], []⟩
def d39 : He.DefD := ⟨("Book", some "put_rules"), "put_rules", "Book.put_rules", defArgs (inClass (top 48) 2), defBody (inClass (top 48) 2), defScope (inClass (top 48) 2), [], []⟩
def d40 : He.DefD := ⟨("Book", some "__eq__"), "__eq__", "Book.__eq__", defArgs (inClass (top 48) 3), defBody (inClass (top 48) 3), defScope (inClass (top 48) 3), [], []⟩
def d41 : He.DefD := ⟨("_law_hand", none), "_law_hand", "_law_hand", defArgs (top 50), defBody (top 50), defScope (top 50), [], []⟩
def d42 : He.DefD := ⟨("_law_draw", none), "_law_draw", "_law_draw", defArgs (top 51), defBody (top 51), defScope (top 51), [], []⟩
def d43 : He.DefD := ⟨("_law_any", none), "_law_any", "_law_any", defArgs (top 52), defBody (top 52), defScope (top 52), [], []⟩
def d44 : He.DefD := ⟨("_law_is", none), "_law_is", "_law_is", defArgs (top 53), defBody (top 53), defScope (top 53), [], []⟩
def d45 : He.DefD := ⟨("_law_some", none), "_law_some", "_law_some", defArgs (top 54), defBody (top 54), defScope (top 54), [], []⟩
def d46 : He.DefD := ⟨("_law_rule", none), "_law_rule", "_law_rule", defArgs (top 55), defBody (top 55), defScope (top 55), [], []⟩
def d47 : He.DefD := ⟨("_law_drawn", none), "_law_drawn", "_law_drawn", defArgs (top 56), defBody (top 56), defScope (top 56), [], []⟩
def d48 : He.DefD := ⟨("_law_book", none), "_law_book", "_law_book", defArgs (top 57), defBody (top 57), defScope (top 57), [], []⟩
def d49 : He.DefD := ⟨("_law_word", none), "_law_word", "_law_word", defArgs (top 58), defBody (top 58), defScope (top 58), [], []⟩
def d50 : He.DefD := ⟨("_law_row", none), "_law_row", "_law_row", defArgs (top 59), defBody (top 59), defScope (top 59), [], []⟩
def d51 : He.DefD := ⟨("_law_due", none), "_law_due", "_law_due", defArgs (top 60), defBody (top 60), defScope (top 60), [], []⟩
def d52 : He.DefD := ⟨("_law_unlike", none), "_law_unlike", "_law_unlike", defArgs (top 61), defBody (top 61), defScope (top 61), [], []⟩
def d53 : He.DefD := ⟨("_law_three_right", none), "_law_three_right", "_law_three_right", defArgs (top 62), defBody (top 62), defScope (top 62), [], []⟩
def d54 : He.DefD := ⟨("_law_refused", none), "_law_refused", "_law_refused", defArgs (top 63), defBody (top 63), defScope (top 63), [], []⟩
def d55 : He.DefD := ⟨("law", none), "law", "law", defArgs (top 64), defBody (top 64), defScope (top 64), [], []⟩
def fn : List He.DefD := [d0, d1, d2, d3, d4, d5, d6, d7, d8, d9, d10, d11, d12, d13, d14, d15, d16, d17, d18, d19, d20, d21, d22, d23, d24, d25, d26, d27, d28, d29, d30, d31, d32, d33, d34, d35, d36, d37, d38, d39, d40, d41, d42, d43, d44, d45, d46, d47, d48, d49, d50, d51, d52, d53, d54, d55]
def tf : List He.Defn := [(("_law_refused" : Str), none)]
def fa : List He.Fa := [.free "isinstance", .free "int", .free "bool", .glo "is_integer", .free "str", .free "len", .free "all", .str "LETTERS" "abcdefghijklmnopqrstuvwxyz", .free "range", .free "tuple", .glo "is_name", .glo "is_ascending", .glo "is_number", .int "MOST_DAYS" 7, .glo "is_between", .int "MOST_PERIODS" 12, .cls "Week", .noat "Week" "days", .noat "Week" "periods", .glo "is_numbers", .meth "Week" "has", .glo "is_laid", .glo "is_timetable", .cls "Book", .noat "Book" "lessons", .cls "Room", .noat "Room" "name", .cls "Person", .noat "Person" "name", .cls "Lesson", .noat "Lesson" "name", .glo "check_whole", .free "zip", .glo "gone_to", .int "MOST_SEATS" 999, .int "MOST_KINDS" 6, .glo "is_names", .noat "Room" "seats", .noat "Lesson" "seats", .noat "Room" "kinds", .noat "Lesson" "kinds", .noat "Room" "closed", .int "MOST_A_DAY" 12, .noat "Person" "absent", .noat "Person" "most", .int "MOST_LENGTH" 4, .int "MOST_IN_LESSON" 8, .noat "Lesson" "length", .noat "Lesson" "people", .noat "Book" "people", .noat "Lesson" "starts", .int "MOST_TOLD" 6, .glo "PAIRS", .glo "Week", .int "MOST_ROOMS" 12, .free "enumerate", .glo "Room", .glo "is_slots", .glo "is_behind", .int "MOST_PEOPLE" 30, .glo "Person", .noat "Book" "week", .noat "Book" "rooms", .noat "Book" "room_named", .noat "Book" "person_named", .meth "Book" "put_lessons", .meth "Book" "put_rules", .int "MOST_LESSONS" 24, .glo "Lesson", .noat "Book" "lesson_named", .int "MOST_RULES" 40, .glo "is_rule", .glo "names_of", .noat "Book" "rules", .free "abs", .glo "_law_draw", .free "list", .glo "_law_is", .glo "_law_any", .free "sorted", .free "set", .glo "_law_some", .glo "_law_rule", .mkr "Room", .mkr "Person", .mkr "Lesson", .mkr "Week", .mkr "Book", .glo "Book", .glo "_law_due", .glo "merged", .glo "unlike_in", .glo "_law_unlike", .glo "_law_word", .glo "_law_hand", .glo "_law_drawn", .glo "_law_book", .glo "_law_row", .glo "_law_three_right", .glo "_law_refused", .glo "HourError", .exm "NoTimetable" "HourError" true, .free "ValueError", .glo "NoTimetable", .glo "law"]
def exL (K : PySem.W.Frag) : List Bool := [He.tupB K "PAIRS" [.str "apart", .str "same", .str "ahead", .str "together", .str "next"], insB K (He.ga K "Week"), decide (PySem.W.kitOne K (.ref (He.ga K "Week")) (.ref (He.ga K "Week")) = some true), ktB K (He.ga K "Week"), insB K (He.ga K "Room"), decide (PySem.W.kitOne K (.ref (He.ga K "Room")) (.ref (He.ga K "Room")) = some true), ktB K (He.ga K "Room"), insB K (He.ga K "Person"), decide (PySem.W.kitOne K (.ref (He.ga K "Person")) (.ref (He.ga K "Person")) = some true), ktB K (He.ga K "Person"), insB K (He.ga K "Lesson"), decide (PySem.W.kitOne K (.ref (He.ga K "Lesson")) (.ref (He.ga K "Lesson")) = some true), ktB K (He.ga K "Lesson"), excB K (He.ga K "NoTimetable"), decide (PySem.W.kitOne K (.ref (He.ga K "NoTimetable")) (.ref (He.ga K "NoTimetable")) = some true), decide (PySem.W.kitOne K (.ref (He.ga K "NoTimetable")) (.type "ValueError") = some true), vvB K, oexB K (He.ga K "NoTimetable"), He.eqO (PySem.W.findIn K (.ref (He.ga K "NoTimetable")) "__init__") (some (some (.ref (He.fAd K ("HourError", some "__init__"))))), decide (PySem.W.typeIn K (.ref (He.fAd K ("HourError", some "__init__"))) = some (.type "function"))]
def exB (K : PySem.W.Frag) : Bool := (exL K).all id
def loose0 : List Str := ["_wall", "HourError", "BadWeek", "BadRoom", "BadPerson", "BadLesson", "BadBook", "NoTimetable", "MOST_DAYS", "MOST_PERIODS", "LETTERS", "is_integer", "is_between", "is_number", "is_name", "is_ascending", "is_names", "is_numbers", "Week", "is_slots", "is_laid", "is_timetable", "check_whole", "gone_to", "merged", "unlike_in", "MOST_SEATS", "MOST_KINDS", "MOST_A_DAY", "MOST_LENGTH"]
def loose1 : List Str := ["MOST_IN_LESSON", "MOST_ROOMS", "MOST_PEOPLE", "MOST_LESSONS", "MOST_RULES", "MOST_TOLD", "PAIRS", "Room", "Person", "Lesson", "is_rule", "names_of", "is_behind", "Book", "_law_hand", "_law_draw", "_law_any", "_law_is", "_law_some", "_law_rule", "_law_drawn", "_law_book", "_law_word", "_law_row", "_law_due", "_law_unlike", "_law_three_right", "_law_refused"]
def loose : List Str := loose0 ++ loose1
abbrev R39 : PySem.W.OpenRow := PySem.W.OpenLaw.row PySem.Challenge.rw_lessonloom_k39_whole_three_timetables_me
abbrev hk39 : PySem.W.Hook := He.hookX 5 fa fn [] tf exB
def ob39 (s : PySem.W.SharedT) : He.AlX := He.obsX 5 fa fn [] tf exB (HandSHeadRun.getT s)
theorem ob_eq (s : PySem.W.SharedT) : ob39 s = hk39.obs s.abs := He.obsX_eq (HandSHeadRun.getT_eq s)
theorem run39 (w : World) : HandSHeadRun.RunEq R39 (PySem.W.view R39.prog [64]) hk39 ob39 8000 loose w := by
  intro os
  kernel_rfl
theorem exs {w : World} {h : Heap} {K : PySem.W.Frag} (c : He.SaysX fa fn [] tf exB w h K) (i : Nat) {b : Bool} (e : (exL K)[i]? = some b) : b = true := List.all_eq_true.mp (show (exL K).all id = true from c.more) b (List.mem_of_getElem? e)
theorem facts39 {P : Program} {w : World} {K : PySem.W.Frag} {h base : Heap} {mg : Str → Option Value} (X : K.In h) (G : h.Ns mainGlobals mg) (c : He.SaysX fa fn [] tf exB w h K)
    (TB : LamX.TabB base mg (He.codeOf K ("_law_refused", none)) (He.tabOf K (He.codeOf K ("_law_refused", none)))) : Fx P w K mg base where
  n_isinstance := He.free_ok X G (c.t.d.fact 0 (f := .free "isinstance") rfl)
  n_int := He.free_ok X G (c.t.d.fact 1 (f := .free "int") rfl)
  n_bool := He.free_ok X G (c.t.d.fact 2 (f := .free "bool") rfl)
  fd_is_integer := c.t.d.def_ 7 (d := d7) rfl
  g_is_integer := He.glo_ok X G (c.t.d.fact 3 (f := .glo "is_integer") rfl)
  fd_is_between := c.t.d.def_ 8 (d := d8) rfl
  fd_is_number := c.t.d.def_ 9 (d := d9) rfl
  n_str := He.free_ok X G (c.t.d.fact 4 (f := .free "str") rfl)
  n_len := He.free_ok X G (c.t.d.fact 5 (f := .free "len") rfl)
  n_all := He.free_ok X G (c.t.d.fact 6 (f := .free "all") rfl)
  c_LETTERS := (by obtain ⟨t, e⟩ := He.str_ok X G (c.t.d.fact 7 (f := .str "LETTERS" "abcdefghijklmnopqrstuvwxyz") rfl); exact ⟨_, e, t, rfl⟩)
  fd_is_name := c.t.d.def_ 10 (d := d10) rfl
  n_range := He.free_ok X G (c.t.d.fact 8 (f := .free "range") rfl)
  fd_is_ascending := c.t.d.def_ 11 (d := d11) rfl
  n_tuple := He.free_ok X G (c.t.d.fact 9 (f := .free "tuple") rfl)
  g_is_name := He.glo_ok X G (c.t.d.fact 10 (f := .glo "is_name") rfl)
  g_is_ascending := He.glo_ok X G (c.t.d.fact 11 (f := .glo "is_ascending") rfl)
  fd_is_names := c.t.d.def_ 12 (d := d12) rfl
  g_is_number := He.glo_ok X G (c.t.d.fact 12 (f := .glo "is_number") rfl)
  fd_is_numbers := c.t.d.def_ 13 (d := d13) rfl
  c_MOST_DAYS := (by obtain ⟨t, e⟩ := He.int_ok X G (c.t.d.fact 13 (f := .int "MOST_DAYS" 7) rfl); exact ⟨_, e, t, rfl⟩)
  g_is_between := He.glo_ok X G (c.t.d.fact 14 (f := .glo "is_between") rfl)
  c_MOST_PERIODS := (by obtain ⟨t, e⟩ := He.int_ok X G (c.t.d.fact 15 (f := .int "MOST_PERIODS" 12) rfl); exact ⟨_, e, t, rfl⟩)
  cls_Week := He.cls_ok (c.t.d.fact 16 (f := .cls "Week") rfl)
  na_Week_days := He.noat_ok (c.t.d.fact 17 (f := .noat "Week" "days") rfl)
  na_Week_periods := He.noat_ok (c.t.d.fact 18 (f := .noat "Week" "periods") rfl)
  fd_Week_init := c.t.d.def_ 14 (d := d14) rfl
  fd_Week_has := c.t.d.def_ 16 (d := d16) rfl
  g_is_numbers := He.glo_ok X G (c.t.d.fact 19 (f := .glo "is_numbers") rfl)
  me_Week_has := He.meth_ok (c.t.d.fact 20 (f := .meth "Week" "has") rfl)
  fd_is_slots := c.t.d.def_ 17 (d := d17) rfl
  fd_is_laid := c.t.d.def_ 18 (d := d18) rfl
  g_is_laid := He.glo_ok X G (c.t.d.fact 21 (f := .glo "is_laid") rfl)
  fd_is_timetable := c.t.d.def_ 19 (d := d19) rfl
  g_is_timetable := He.glo_ok X G (c.t.d.fact 22 (f := .glo "is_timetable") rfl)
  cls_Book := He.cls_ok (c.t.d.fact 23 (f := .cls "Book") rfl)
  na_Book_lessons := He.noat_ok (c.t.d.fact 24 (f := .noat "Book" "lessons") rfl)
  cls_Room := He.cls_ok (c.t.d.fact 25 (f := .cls "Room") rfl)
  na_Room_name := He.noat_ok (c.t.d.fact 26 (f := .noat "Room" "name") rfl)
  cls_Person := He.cls_ok (c.t.d.fact 27 (f := .cls "Person") rfl)
  na_Person_name := He.noat_ok (c.t.d.fact 28 (f := .noat "Person" "name") rfl)
  cls_Lesson := He.cls_ok (c.t.d.fact 29 (f := .cls "Lesson") rfl)
  na_Lesson_name := He.noat_ok (c.t.d.fact 30 (f := .noat "Lesson" "name") rfl)
  fd_check_whole := c.t.d.def_ 20 (d := d20) rfl
  fd_gone_to := c.t.d.def_ 21 (d := d21) rfl
  g_check_whole := He.glo_ok X G (c.t.d.fact 31 (f := .glo "check_whole") rfl)
  n_zip := He.free_ok X G (c.t.d.fact 32 (f := .free "zip") rfl)
  g_gone_to := He.glo_ok X G (c.t.d.fact 33 (f := .glo "gone_to") rfl)
  fd_merged := c.t.d.def_ 22 (d := d22) rfl
  fd_unlike_in := c.t.d.def_ 23 (d := d23) rfl
  c_MOST_SEATS := (by obtain ⟨t, e⟩ := He.int_ok X G (c.t.d.fact 34 (f := .int "MOST_SEATS" 999) rfl); exact ⟨_, e, t, rfl⟩)
  c_MOST_KINDS := (by obtain ⟨t, e⟩ := He.int_ok X G (c.t.d.fact 35 (f := .int "MOST_KINDS" 6) rfl); exact ⟨_, e, t, rfl⟩)
  g_is_names := He.glo_ok X G (c.t.d.fact 36 (f := .glo "is_names") rfl)
  na_Room_seats := He.noat_ok (c.t.d.fact 37 (f := .noat "Room" "seats") rfl)
  na_Lesson_seats := He.noat_ok (c.t.d.fact 38 (f := .noat "Lesson" "seats") rfl)
  na_Room_kinds := He.noat_ok (c.t.d.fact 39 (f := .noat "Room" "kinds") rfl)
  na_Lesson_kinds := He.noat_ok (c.t.d.fact 40 (f := .noat "Lesson" "kinds") rfl)
  na_Room_closed := He.noat_ok (c.t.d.fact 41 (f := .noat "Room" "closed") rfl)
  fd_Room_init := c.t.d.def_ 24 (d := d24) rfl
  c_MOST_A_DAY := (by obtain ⟨t, e⟩ := He.int_ok X G (c.t.d.fact 42 (f := .int "MOST_A_DAY" 12) rfl); exact ⟨_, e, t, rfl⟩)
  na_Person_absent := He.noat_ok (c.t.d.fact 43 (f := .noat "Person" "absent") rfl)
  na_Person_most := He.noat_ok (c.t.d.fact 44 (f := .noat "Person" "most") rfl)
  fd_Person_init := c.t.d.def_ 27 (d := d27) rfl
  c_MOST_LENGTH := (by obtain ⟨t, e⟩ := He.int_ok X G (c.t.d.fact 45 (f := .int "MOST_LENGTH" 4) rfl); exact ⟨_, e, t, rfl⟩)
  c_MOST_IN_LESSON := (by obtain ⟨t, e⟩ := He.int_ok X G (c.t.d.fact 46 (f := .int "MOST_IN_LESSON" 8) rfl); exact ⟨_, e, t, rfl⟩)
  na_Lesson_length := He.noat_ok (c.t.d.fact 47 (f := .noat "Lesson" "length") rfl)
  na_Lesson_people := He.noat_ok (c.t.d.fact 48 (f := .noat "Lesson" "people") rfl)
  na_Book_people := He.noat_ok (c.t.d.fact 49 (f := .noat "Book" "people") rfl)
  na_Lesson_starts := He.noat_ok (c.t.d.fact 50 (f := .noat "Lesson" "starts") rfl)
  fd_Lesson_init := c.t.d.def_ 30 (d := d30) rfl
  c_MOST_TOLD := (by obtain ⟨t, e⟩ := He.int_ok X G (c.t.d.fact 51 (f := .int "MOST_TOLD" 6) rfl); exact ⟨_, e, t, rfl⟩)
  c_PAIRS := ⟨⟨_, He.glo_ok X G (c.t.d.fact 52 (f := .glo "PAIRS") rfl), rfl⟩, fun H => He.tupB_ok (x := "PAIRS") (vs := [.str "apart", .str "same", .str "ahead", .str "together", .str "next"]) (exs c 0 rfl) H⟩
  fd_is_rule := c.t.d.def_ 34 (d := d34) rfl
  fd_names_of := c.t.d.def_ 35 (d := d35) rfl
  fd_is_behind := c.t.d.def_ 36 (d := d36) rfl
  ins_Week := ins_of (He.cls_ok (c.t.d.fact 16 (f := .cls "Week") rfl)) (exs c 1 rfl)
  ko_Week_Week := of_decide_eq_true (exs c 2 rfl)
  kt_Week := ktB_ok (exs c 3 rfl)
  g_Week := He.glo_ok X G (c.t.d.fact 53 (f := .glo "Week") rfl)
  c_MOST_ROOMS := (by obtain ⟨t, e⟩ := He.int_ok X G (c.t.d.fact 54 (f := .int "MOST_ROOMS" 12) rfl); exact ⟨_, e, t, rfl⟩)
  n_enumerate := He.free_ok X G (c.t.d.fact 55 (f := .free "enumerate") rfl)
  ins_Room := ins_of (He.cls_ok (c.t.d.fact 25 (f := .cls "Room") rfl)) (exs c 4 rfl)
  ko_Room_Room := of_decide_eq_true (exs c 5 rfl)
  kt_Room := ktB_ok (exs c 6 rfl)
  g_Room := He.glo_ok X G (c.t.d.fact 56 (f := .glo "Room") rfl)
  g_is_slots := He.glo_ok X G (c.t.d.fact 57 (f := .glo "is_slots") rfl)
  g_is_behind := He.glo_ok X G (c.t.d.fact 58 (f := .glo "is_behind") rfl)
  c_MOST_PEOPLE := (by obtain ⟨t, e⟩ := He.int_ok X G (c.t.d.fact 59 (f := .int "MOST_PEOPLE" 30) rfl); exact ⟨_, e, t, rfl⟩)
  ins_Person := ins_of (He.cls_ok (c.t.d.fact 27 (f := .cls "Person") rfl)) (exs c 7 rfl)
  ko_Person_Person := of_decide_eq_true (exs c 8 rfl)
  kt_Person := ktB_ok (exs c 9 rfl)
  g_Person := He.glo_ok X G (c.t.d.fact 60 (f := .glo "Person") rfl)
  na_Book_week := He.noat_ok (c.t.d.fact 61 (f := .noat "Book" "week") rfl)
  na_Book_rooms := He.noat_ok (c.t.d.fact 62 (f := .noat "Book" "rooms") rfl)
  na_Book_room_named := He.noat_ok (c.t.d.fact 63 (f := .noat "Book" "room_named") rfl)
  na_Book_person_named := He.noat_ok (c.t.d.fact 64 (f := .noat "Book" "person_named") rfl)
  me_Book_put_lessons := He.meth_ok (c.t.d.fact 65 (f := .meth "Book" "put_lessons") rfl)
  me_Book_put_rules := He.meth_ok (c.t.d.fact 66 (f := .meth "Book" "put_rules") rfl)
  fd_Book_init := c.t.d.def_ 37 (d := d37) rfl
  c_MOST_LESSONS := (by obtain ⟨t, e⟩ := He.int_ok X G (c.t.d.fact 67 (f := .int "MOST_LESSONS" 24) rfl); exact ⟨_, e, t, rfl⟩)
  ins_Lesson := ins_of (He.cls_ok (c.t.d.fact 29 (f := .cls "Lesson") rfl)) (exs c 10 rfl)
  ko_Lesson_Lesson := of_decide_eq_true (exs c 11 rfl)
  kt_Lesson := ktB_ok (exs c 12 rfl)
  g_Lesson := He.glo_ok X G (c.t.d.fact 68 (f := .glo "Lesson") rfl)
  na_Book_lesson_named := He.noat_ok (c.t.d.fact 69 (f := .noat "Book" "lesson_named") rfl)
  fd_Book_put_lessons := c.t.d.def_ 38 (d := d38) rfl
  c_MOST_RULES := (by obtain ⟨t, e⟩ := He.int_ok X G (c.t.d.fact 70 (f := .int "MOST_RULES" 40) rfl); exact ⟨_, e, t, rfl⟩)
  g_is_rule := He.glo_ok X G (c.t.d.fact 71 (f := .glo "is_rule") rfl)
  g_names_of := He.glo_ok X G (c.t.d.fact 72 (f := .glo "names_of") rfl)
  na_Book_rules := He.noat_ok (c.t.d.fact 73 (f := .noat "Book" "rules") rfl)
  fd_Book_put_rules := c.t.d.def_ 39 (d := d39) rfl
  n_abs := He.free_ok X G (c.t.d.fact 74 (f := .free "abs") rfl)
  fd_law_hand := c.t.d.def_ 41 (d := d41) rfl
  fd_law_draw := c.t.d.def_ 42 (d := d42) rfl
  g__law_draw := He.glo_ok X G (c.t.d.fact 75 (f := .glo "_law_draw") rfl)
  fd_law_any := c.t.d.def_ 43 (d := d43) rfl
  n_list := He.free_ok X G (c.t.d.fact 76 (f := .free "list") rfl)
  g__law_is := He.glo_ok X G (c.t.d.fact 77 (f := .glo "_law_is") rfl)
  fd_law_is := c.t.d.def_ 44 (d := d44) rfl
  fd_law_some := c.t.d.def_ 45 (d := d45) rfl
  g__law_any := He.glo_ok X G (c.t.d.fact 78 (f := .glo "_law_any") rfl)
  n_sorted := He.free_ok X G (c.t.d.fact 79 (f := .free "sorted") rfl)
  n_set := He.free_ok X G (c.t.d.fact 80 (f := .free "set") rfl)
  fd_law_rule := c.t.d.def_ 46 (d := d46) rfl
  g__law_some := He.glo_ok X G (c.t.d.fact 81 (f := .glo "_law_some") rfl)
  g__law_rule := He.glo_ok X G (c.t.d.fact 82 (f := .glo "_law_rule") rfl)
  fd_law_drawn := c.t.d.def_ 47 (d := d47) rfl
  mk_Room := He.mkr_ok (c.t.d.fact 83 (f := .mkr "Room") rfl)
  mk_Person := He.mkr_ok (c.t.d.fact 84 (f := .mkr "Person") rfl)
  mk_Lesson := He.mkr_ok (c.t.d.fact 85 (f := .mkr "Lesson") rfl)
  mk_Week := He.mkr_ok (c.t.d.fact 86 (f := .mkr "Week") rfl)
  mk_Book := He.mkr_ok (c.t.d.fact 87 (f := .mkr "Book") rfl)
  g_Book := He.glo_ok X G (c.t.d.fact 88 (f := .glo "Book") rfl)
  fd_law_book := c.t.d.def_ 48 (d := d48) rfl
  fd_law_row := c.t.d.def_ 50 (d := d50) rfl
  fd_law_due := c.t.d.def_ 51 (d := d51) rfl
  fd_law_unlike := c.t.d.def_ 52 (d := d52) rfl
  g__law_due := He.glo_ok X G (c.t.d.fact 89 (f := .glo "_law_due") rfl)
  g_merged := He.glo_ok X G (c.t.d.fact 90 (f := .glo "merged") rfl)
  g_unlike_in := He.glo_ok X G (c.t.d.fact 91 (f := .glo "unlike_in") rfl)
  g__law_unlike := He.glo_ok X G (c.t.d.fact 92 (f := .glo "_law_unlike") rfl)
  fd_law_three_right := c.t.d.def_ 53 (d := d53) rfl
  g__law_word := He.glo_ok X G (c.t.d.fact 93 (f := .glo "_law_word") rfl)
  fd_law_refused := c.t.d.def_ 54 (d := d54) rfl
  g__law_hand := He.glo_ok X G (c.t.d.fact 94 (f := .glo "_law_hand") rfl)
  g__law_drawn := He.glo_ok X G (c.t.d.fact 95 (f := .glo "_law_drawn") rfl)
  g__law_book := He.glo_ok X G (c.t.d.fact 96 (f := .glo "_law_book") rfl)
  g__law_row := He.glo_ok X G (c.t.d.fact 97 (f := .glo "_law_row") rfl)
  g__law_three_right := He.glo_ok X G (c.t.d.fact 98 (f := .glo "_law_three_right") rfl)
  g__law_refused := He.glo_ok X G (c.t.d.fact 99 (f := .glo "_law_refused") rfl)
  fd_law := c.t.d.def_ 55 (d := d55) rfl
  tb_law_refused := TB
  g_HourError := He.glo_ok X G (c.t.d.fact 100 (f := .glo "HourError") rfl)
  g_law_word := He.glo_ok X G (c.t.d.fact 93 (f := .glo "_law_word") rfl)
  exm_NT := He.exm_ok (c.t.d.fact 101 (f := .exm "NoTimetable" "HourError" true) rfl)
  exc_NT := excB_ok (exs c 13 rfl)
  kx_NT := of_decide_eq_true (exs c 14 rfl)
  kv_NT := of_decide_eq_true (exs c 15 rfl)
  fd_law_word := c.t.d.def_ 49 (d := d49) rfl
  fd_HourError_init := c.t.d.def_ 1 (d := d1) rfl
  n_ValueError := He.free_ok X G (c.t.d.fact 102 (f := .free "ValueError") rfl)
  vV := vvB_ok (exs c 16 rfl)
  g_NoTimetable := He.glo_ok X G (c.t.d.fact 103 (f := .glo "NoTimetable") rfl)
  ox_NoTimetable := oexB_ok (exs c 17 rfl)
  in_NoTimetable := He.eqO_ok (exs c 18 rfl)
  ty_HourError := of_decide_eq_true (exs c 19 rfl)
theorem law_at {w : World} {K : PySem.W.Frag} {h : Heap} {mg : Str → Option Value} (X : K.In h) (G : h.Ns mainGlobals mg) (c : He.SaysX fa fn [] tf exB w h K) : mg "law" = some (.ref (He.ga K "law")) := He.glo_ok X G (c.t.d.fact 104 (f := .glo "law") rfl)
theorem law_fd {w : World} {K : PySem.W.Frag} {h : Heap} (c : He.SaysX fa fn [] tf exB w h K) : ∃ fd, FunD K "law" "law" (defArgs (top 64)) (defBody (top 64)) (defScope (top 64)) [] [] (He.fAd K ("law", none)) fd := c.t.d.def_ 55 (d := d55) rfl
end Py

set_option Elab.async false
set_option linter.all false
set_option maxRecDepth 100000
set_option maxHeartbeats 0
/-! E39: the end. -/
namespace Py
open PySem PySem.Spec PyProof.Rows L2
theorem rvl_ints {K : PySem.W.Frag} {φ : List Addr} {H : Hp} : ∀ {is : List Int}, RvL K φ H (is.map .int) (is.map V.int)
  | [] => .nil
  | i :: is => .cons .int rvl_ints
theorem rel0 {K : PySem.W.Frag} {tabs : List (Addr × Str)} {H : Hp} {a : Addr} {is : List Int} (hT : LamX.Tabs tabs H) (S : SqL K H a (is.map V.int)) :
    ∃ (r : RV) (bor : List Addr), (r = .z (is.map .int) ∨ r = .f (is.map .int)) ∧ Rel K ⟨tabs, bor⟩ [] [some (.ref a)] H ⟨[some r], []⟩ := by
  have noO : ∀ (r : RV), (∀ vs, r ≠ .l vs) → ∀ i p, ¬ Own [some r] [some (V.ref a)] i p := fun r h i p ⟨vs, e, _⟩ => by
    cases i with
    | zero => exact h vs (by simpa using e)
    | succ i => simp at e
  have key : ∀ (r : RV) (bor : List Addr), (∀ vs, r ≠ .l vs) → Sl K ⟨tabs, bor⟩ [] [some r] [some (.ref a)] H 0 (some r) → (∀ b ∈ bor, ¬ Fr H b) → Rel K ⟨tabs, bor⟩ [] [some (.ref a)] H ⟨[some r], []⟩ := fun r bor h1 h2 h3 =>
    { nd := List.nodup_nil
      len := rfl
      obj := fun n a o e => by simp at e
      slot := fun i q e => by
        cases i with
        | zero =>
          have : q = some r := (Option.some.inj e).symm
          rw [this]
          exact h2
        | succ i => simp at e
      inj := fun i j p o => (noO r h1 i p o).elim
      tab := hT
      bor := fun b hb => ⟨h3 b hb, fun m => m.elim (fun z => by simp at z) fun ⟨i, o⟩ => noO r h1 i b o⟩
      elen := rfl }
  have zz : Fz K H a (is.map V.int) → ∃ (r : RV) (bor : List Addr), (r = .z (is.map .int) ∨ r = .f (is.map .int)) ∧ Rel K ⟨tabs, bor⟩ [] [some (.ref a)] H ⟨[some r], []⟩ := fun f =>
    ⟨.z (is.map .int), [], .inl rfl, key _ _ (fun vs z => nomatch z) ⟨a, is.map V.int, rfl, f, rvl_ints⟩ fun b hb => absurd hb List.not_mem_nil⟩
  rcases S with (h | h) | h
  · refine ⟨.f (is.map .int), [a], .inr rfl, key _ _ (fun vs z => nomatch z) ⟨a, is.map V.int, rfl, h, List.mem_singleton.mpr rfl, rvl_ints⟩ fun b hb z => ?_⟩
    rw [List.mem_singleton.mp hb] at z
    exact z.lst h
  · exact zz (.inr h)
  · exact zz (.inl h)
theorem sp_law {K : PySem.W.Frag} {H : Hp} {a : Addr} {ns : List Int} (hl : ns.length ≤ 63) (hT : H (He.tabOf K (He.codeOf K ("_law_refused", none))) = some (.tbl #[])) (S : SqL K H a (ns.map V.int)) :
    spOf K (tabs39 K) f_law [.ref a] H (fun v _ => v = .bl true) fun _ _ _ => False := by
  obtain ⟨r, bor, hr, rel⟩ := rel0 (tabs := tabs39 K) (fun p hp => by
    rw [List.mem_singleton.mp hp]
    exact LamX.TabS.nil hT) S
  obtain ⟨hp', e⟩ := s_law hr (by omega)
  refine ⟨[], [r], [], bor, rel, ?_⟩
  rw [e]
  exact fun φ' H' v _ _ _ _ rr => Rv.bl_inv (show Rv K φ' H' (.bl true) v from rr)
theorem law_fn {P : Program} {w : World} {K : PySem.W.Frag} {mg : Str → Option Value} {base : Heap} {fd : FuncData} (F : Fx P w K mg base) (D : FunD K "law" "law" (defArgs (top 64)) (defBody (top 64)) (defScope (top 64)) [] [] (He.fAd K ("law", none)) fd) :
    FnOk P w K mg base (L2.CX P w) 10 (He.fAd K ("law", none)) fd ["script"] (spOf K (tabs39 K) f_law) := by
  obtain ⟨oc, od, dV, kV, doc, pm, an, cdv, ct, osl, rfl, lk, hcd, _, _⟩ := D.ex
  exact fn_ok lk hcd (fs_by rfl) rfl rfl (b_law F cdv)
theorem at39 {w : World} {K : PySem.W.Frag} {mg : Str → Option Value} {f : Addr} {h : Heap} (X : K.In h) (G : h.Ns mainGlobals mg) (c : He.SaysX fa fn [] tf exB w h K) (hfa : mg ("law" : Str) = some (.ref f)) :
    LamX.LawAtS PySem.Challenge.rw_lessonloom_k39_whole_three_timetables_me w K (L2.CX PySem.Challenge.rw_lessonloom_k39_whole_three_timetables_me.prog w) 10 63 "script" mg f h := by
  obtain ⟨fd, D⟩ : ∃ fd, FunD K "law" "law" (defArgs (top 64)) (defBody (top 64)) (defScope (top 64)) [] [] (He.fAd K ("law", none)) fd := law_fd c
  have e := hfa.symm.trans (law_at X G c)
  cases e
  have b := FunD.bindsA (ps := ["script"]) D fun _ _ _ _ _ _ us hl => match us, hl with | [_], _ => rfl
  refine ⟨fd, [(He.codeOf K ("_law_refused", none), He.tabOf K (He.codeOf K ("_law_refused", none)))], spOf K (tabs39 K) f_law, fun p hp => ?_, fun p hp => ?_, fun p hp => ?_, fun s v => b s [v] rfl, fun H a ns h1 _ h3 h4 => sp_law h1 (h3 _ (List.mem_singleton.mpr rfl)) h4, fun base KX hns hTB => law_fn (facts39 X G c (hTB _ (List.mem_singleton.mpr rfl))) D⟩
  all_goals rw [List.mem_singleton.mp hp]
  · exact c.empty ("_law_refused", none) (List.mem_singleton.mpr rfl)
  · exact c.out ("_law_refused", none) (List.mem_singleton.mpr rfl)
  · exact PySem.W.codeHd_of_K X (c.hd ("_law_refused", none) (List.mem_singleton.mpr rfl))
end Py
open PySem PySem.W PySem.Calls PyProof.Rows
theorem PySem.Challenge.cw_lessonloom_k39_whole_three_timetables_me_holds : PySem.Challenge.rw_lessonloom_k39_whole_three_timetables_me.Holds := by
  w_on; o_law
  refine HandSHeadRun.head_any (r := OpenLaw.row PySem.Challenge.rw_lessonloom_k39_whole_three_timetables_me) (q := view (OpenLaw.row PySem.Challenge.rw_lessonloom_k39_whole_three_timetables_me).prog [64]) (H := Py.hk39) (ob := Py.ob39) (M := 8000) (loose := Py.loose) (d := HandSHeadRun.topDef (OpenLaw.row PySem.Challenge.rw_lessonloom_k39_whole_three_timetables_me).prog 64) (kwd := []) Py.ob_eq
    (by kernel_rfl) (fun s => by kernel_rfl) Py.run39 (by kernel_rfl) (by kernel_rfl) (by kernel_rfl) (by rfl) (by first | assumption | decide +kernel) (by decide +kernel) ⟨rfl, rfl, rfl, rfl, rfl, by decide +kernel⟩ ?hw ?hc
  case hw => w_witness2
  case hc =>
    refine LamX.walk_ofTsE (l := PySem.Challenge.rw_lessonloom_k39_whole_three_timetables_me) (n := 63) (k := 10) (x := "script") (CX := fun w => L2.CX PySem.Challenge.rw_lessonloom_k39_whole_three_timetables_me.prog w) rfl (by decide) (by kernel_rfl) ⟨rfl, by decide, by decide⟩ ?F (fun _ _ _ _ _ ⟨_, _, _, _, _, _, _, _, _, _, _, _, z⟩ => z)
    intro w mg fa h Y G hmg0
    obtain ⟨K, KX, c⟩ := Y
    have hmg : mg ("law" : PySem.Str) = some (.ref fa) := by
      have e : (HandSHeadRun.topDef (OpenLaw.row PySem.Challenge.rw_lessonloom_k39_whole_three_timetables_me).prog 64).name = ("law" : PySem.Str) := by kernel_rfl
      rw [← e]
      exact hmg0
    exact ⟨K, KX, Py.at39 KX G c hmg⟩
